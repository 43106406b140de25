/-
  A part of the proof.
-/
import Derived.Test.YthepmkjggfijoaaGreatDoorSA
import Derived.Test.YthepmkjggfijoaaGreatDoorS08
set_option linter.all false
set_option maxRecDepth 100000
set_option maxHeartbeats 4000000
open Go.Lib (hid)
namespace Go.Proofs.YthepmkjggfijoaaGreatDoor
open Go.RowKit Mist
attribute [local go_sem] aj aH aS aB ak
section
variable {g:Nat} {tv:Value} {l:List Tok} {en:Int} {iv:Value} (hF:PF l)
include hF
theorem Wi (m:Nat)(C:∀ f,f≤m→∀ j,isFn j=true→IC g tv l en iv f j)(CL:∀ f,f≤m→∀ e,LC g tv l en iv f e):IC g tv l en iv (m+1) .expr:=by
 intro w k xs nv r h hk hn hw hr;have H:=hid h;clear h;have uD:=hid (At.refl H.out);have HW0:=hid hw;clear hw;have hn0:(aA xs).length≤k:=by rw [aD];exact hn
 have hlen:=hF.len;rw [run] at hr
 unfold t_;go_enter Tryz.func210,Tryz.ntmps210
 have qm:=hid hr;clear hr;go_wp2_with fail;refine (h_ g tv l en iv _ k _ _ uD.out.ps (by omega) hlen).mono ?_;rintro e w1⟨rfl,hb1⟩;have HA1:=hid (uD.out.below hb1);skip;clear hb1;have og:=hid (aC.new w1 68 #[.int .u8 (tg l k).kind,.string (aM (tx l k)),.int .i64 (pl l en k)]);have aZ:=hid (HA1.out.alloc (.cells #[.int .u8 (tg l k).kind,.string (aM (tx l k)),.int .i64 (pl l en k)] 68));clear HA1;rcases gG qm.out with ⟨he2,hr2⟩ | ⟨he2,hr2⟩
 ·skip;have hlt2:=aP he2 (by simp);have HE2:=hid he2;clear he2;have HR2:=hid hr2;clear hr2;go_wp2_with fail;refine (jg g tv l en iv hF [105,102] (.inl (by decide +kernel)) _ k _ _ aZ.out.ps (by omega) HE2.out).mono ?_;rintro e w3⟨rfl,p3,m3⟩;have iG:=hid (aZ.out.ps.aU m3 og.out);clear og;have gM:=hid (aZ.out.step p3 m3);clear aZ;clear p3 m3;rcases dW HR2.out with ⟨ks4,k4,MG,hx4,hr4⟩ | ⟨kb4,hx4,rfl⟩
  rotate_left
  ·have Js:=hid hx4;clear hx4;go_wp2_with fail;refine (C m (aaJ _) .expr rfl _ (k+1) _ _ _ gM.out.ps (by omega) (by rw [gM.out.len];omega) (by rw [gM.out.ns];exact HW0.out) (by rw [gM.out.ns];exact Js.out)).mono ?_;rintro e w4⟨rfl,hb4⟩;unfold aI;go_wp2_with fail;exact⟨rfl,aR.bad rfl ((H.out.low gM.out.mv).trans hb4)⟩
  have Js:=hid hx4;clear hx4;have HR4:=hid hr4;clear hr4 HR2;go_wp2_with fail;refine (C m (aaJ _) .expr rfl _ (k+1) _ _ _ gM.out.ps (by omega) (by rw [gM.out.len];omega) (by rw [gM.out.ns];exact HW0.out) (by rw [gM.out.ns];exact Js.out)).mono ?_;rintro e w4⟨rfl,j5,yH,vM⟩;have Jm:=hid (aW Js.out (by omega) HW0.out (Ids.nil _) (by simp));have gl4:=Jm.out.lo;have gf4:=Jm.out.few;have ge4:=Jm.out.le;have gn4:=Jm.out.len;simp only [Job.reads] at gl4
  have iw:=hid (vM.blk gM.out.ps iG.out (by decide) (by decide));clear iG;have HWF4:=hid Jm.out.wf;have fq:=hid (gM.out.trans vM);clear gM;clear vM;rcases dO HR4.out with ⟨zw,Mj⟩ | ⟨zw,rfl⟩
  rotate_left
  ·have Ns:=hid zw;clear zw;go_wp2_with fail;refine (gQ g tv l en iv hF [116,104,101,110] (.inl (by decide +kernel)) _ k4 _ _ fq.out.ps (by omega) Ns.out).mono ?_;rintro e w5⟨rfl,hb5⟩;unfold aI;go_wp2_with fail;exact⟨rfl,aR.bad rfl ((H.out.low fq.out.mv).trans (hb5.mono (aaK fq.out.ps.lt)))⟩
  have AU:=hid Mj;clear Mj HR4;have hlt5:=aP zw (by simp);have Ns:=hid zw;clear zw;go_wp2_with fail;refine (eZ g tv l en iv hF [116,104,101,110] (.inl (by decide +kernel)) _ k4 _ _ fq.out.ps (by omega) Ns.out).mono ?_;rintro e w5⟨rfl,p5,m5⟩;have oW:=hid (fq.out.ps.aU m5 iw.out);clear iw;have jX:=hid (fq.out.step p5 m5);clear fq;clear p5 m5;rcases dW AU.out with ⟨ks6,k6,ns6,hx6,Ul⟩ | ⟨kb6,hx6,rfl⟩
  rotate_left
  ·have HX6:=hid hx6;clear hx6;go_wp2_with fail;refine (C m (aaJ _) .expr rfl _ (k4+1) _ _ _ jX.out.ps (by omega) (by rw [jX.out.len];omega) (by rw [jX.out.ns];exact HWF4.out) (by rw [jX.out.ns];exact HX6.out)).mono ?_;rintro e w6⟨rfl,hb6⟩;unfold aI;go_wp2_with fail;exact⟨rfl,aR.bad rfl ((H.out.low jX.out.mv).trans hb6)⟩
  have HX6:=hid hx6;clear hx6;have Lu:=hid Ul;clear Ul AU;go_wp2_with fail;refine (C m (aaJ _) .expr rfl _ (k4+1) _ _ _ jX.out.ps (by omega) (by rw [jX.out.len];omega) (by rw [jX.out.ns];exact HWF4.out) (by rw [jX.out.ns];exact HX6.out)).mono ?_;rintro e w6⟨rfl,ext6,XB,ha6⟩;have XP:=hid (aW HX6.out (by omega) HWF4.out (Ids.nil _) (by simp));have gl6:=XP.out.lo;have gf6:=XP.out.few;have ge6:=XP.out.le;have gn6:=XP.out.len;simp only [Job.reads] at gl6
  have n_:=hid (ha6.blk jX.out.ps oW.out (by decide) (by decide));clear oW;have HWF6:=hid XP.out.wf;have ow:=hid (jX.out.trans ha6);clear jX;clear ha6;rcases dO Lu.out with ⟨D9,ZP⟩ | ⟨D9,rfl⟩
  rotate_left
  ·have Qk:=hid D9;clear D9;go_wp2_with fail;refine (gQ g tv l en iv hF [101,108,115,101] (.inl (by decide +kernel)) _ k6 _ _ ow.out.ps (by omega) Qk.out).mono ?_;rintro e w7⟨rfl,nI⟩;unfold aI;go_wp2_with fail;exact⟨rfl,aR.bad rfl ((H.out.low ow.out.mv).trans (nI.mono (aaK ow.out.ps.lt)))⟩
  have HR7:=hid ZP;clear ZP Lu;have hlt7:=aP D9 (by simp);have Qk:=hid D9;clear D9;go_wp2_with fail;refine (eZ g tv l en iv hF [101,108,115,101] (.inl (by decide +kernel)) _ k6 _ _ ow.out.ps (by omega) Qk.out).mono ?_;rintro e w7⟨rfl,p7,m7⟩;have kD:=hid (ow.out.ps.aU m7 n_.out);clear n_;have o9:=hid (ow.out.step p7 m7);clear ow;clear p7 m7;rcases dW HR7.out with ⟨Ib,k8,ns8,EG,Oy⟩ | ⟨kb8,EG,rfl⟩
  rotate_left
  ·have LJ:=hid EG;clear EG;have fH:=kD.out.cell 0;have fQ:=kD.out.cell 1;have fT:=kD.out.cell 2;have sl0:=kD.out.lt;go_wp2_with fail;refine wp_region_held_drew (S:=fun w'=>w'.cell? ⟨w1.heap.size,0,none⟩=some (.int .u8 (tg l k).kind)∧w'.cell? ⟨w1.heap.size,1,none⟩=some (.string (aM (tx l k)))∧w'.cell? ⟨w1.heap.size,2,none⟩=some (.int .i64 (pl l en k))) (by kernel_rfl) ⟨fH,fQ,fT⟩ (fun hHeld=>?_);refine bf 0 rfl hHeld ?_;simp only [Act.put,aaA,aaB,aaC];refine bf 1 rfl hHeld ?_;simp only [Act.put,aaA,aaB,aaC];refine bf 2 rfl hHeld ?_;simp only [Act.put,aaA,aaB,aaC];refine bf 3 rfl hHeld ?_;simp only [Act.put,aaA,aaB,aaC];refine bf 4 rfl hHeld ?_;simp only [Act.put,aaA,aaB,aaC];refine wpAnyH_ready (rs:=[5]) (by kernel_rfl) (by simp) ?_;refine fJ (.s (.s (.s (.s (.s .z))))) (fun K hK=>?_);go_simp;refine (C m (aaJ _) .expr rfl _ (k6+1) _ _ _ o9.out.ps.drew (by omega) (by rw [o9.out.len];omega) (by rw [o9.out.ns];exact HWF6.out) (by rw [o9.out.ns];exact LJ.out)).mono ?_;rintro e w8⟨rfl,tZ⟩;unfold aI;go_wp2_with fail;exact⟨rfl,aR.bad rfl ((Below.drew (H.out.low o9.out.mv)).trans tZ)⟩
  have LJ:=hid EG;clear EG;have U5:=hid Oy;clear Oy HR7;have Je:=hid (aW LJ.out (by omega) HWF6.out (Ids.nil _) (by simp));have gl8:=Je.out.lo;have gf8:=Je.out.few;have ge8:=Je.out.le;have gn8:=Je.out.len;simp only [Job.reads] at gl8
  have fH:=kD.out.cell 0;have fQ:=kD.out.cell 1;have fT:=kD.out.cell 2;have sl0:=kD.out.lt;go_wp2_with fail
  go_region_held3 (fun w'=>w'.cell? ⟨w1.heap.size,0,none⟩=some (.int .u8 (tg l k).kind)∧w'.cell? ⟨w1.heap.size,1,none⟩=some (.string (aM (tx l k)))∧w'.cell? ⟨w1.heap.size,2,none⟩=some (.int .i64 (pl l en k)))
   (first | go_keep|(go_split_ands;refine⟨?_,?_,?_⟩ <;> assumption))
   (first
    | (go_at_call 210;refine (C m (aaJ _) .expr rfl _ (k6+1) _ _ _ o9.out.ps.drew (by omega) (by rw [o9.out.len];omega) (by rw [o9.out.ns];exact HWF6.out) (by rw [o9.out.ns];exact LJ.out)).mono ?_;rintro e w8⟨rfl,ext8,V_,Kq⟩;have zL:=hid (o9.out.drew.trans Kq);have J5:=Kq.blk o9.out.ps.drew kD.out.drew (by decide) (by decide);have wV:=J5.cell 0;have wW:=J5.cell 1;have wX:=J5.cell 2;have Xx:=J5.lt;have YZ:=hid J5;clear J5;have hz8:=zL.out.mv.size;clear Kq)
    | (go_at_call 204;refine (gB g tv l en iv ns8.length 19 _ _ _ [] 0 _ [hd ks4,hd ks6,hd Ib] _ k8 _ _ (zL.out.ps.alloc _) (VX w8 (hd ks4) (hd ks6) (hd Ib)) zL.out.len (by omega)).mono ?_;rintro e w9⟨rfl,nv9,p9,m9⟩;have Ue:=m9.blk (YZ.out.alloc _) (zL.out.ps.tag YZ.out (by decide) (by decide)).1 (zL.out.ps.tag YZ.out (by decide) (by decide)).2;have wY:=Ue.cell 0;have wZ:=Ue.cell 1;have w_:=Ue.cell 2;clear Ue;have vK:=hid ((At.alloc zL.out _).add p9 m9 (by intro b hb;simp [Value.ownBlock] at hb;omega));clear p9 m9))
  all_goals
   obtain rfl:=dV U5.out;go_wp2_with fail;go_ret;exact aR.ok rfl vK.out
 ·skip;have HE2:=hid he2;clear he2;have HR2:=hid hr2;clear hr2;go_wp2_with fail;refine (kN g tv l en iv hF [105,102] (.inl (by decide +kernel)) _ k _ _ aZ.out.ps (by omega) HE2.out).mono ?_;rintro e Qv⟨rfl,Vx⟩;have o_:=hid (og.out.below Vx og.out.lt);clear og;have vO:=hid (aZ.out.below Vx);clear aZ;clear Vx;rcases gG HR2.out with ⟨D6,Oq⟩ | ⟨D6,Oq⟩
  ·skip;have hlt11:=aP D6 (by simp);have QM:=hid D6;clear D6;have U4:=hid Oq;clear Oq;go_wp2_with fail;refine (jg g tv l en iv hF [108,101,116] (.inl (by decide +kernel)) _ k _ _ vO.out.ps (by omega) QM.out).mono ?_;rintro e wQ⟨rfl,p12,m12⟩;have oD:=hid (vO.out.ps.aU m12 o_.out);clear o_;have mo:=hid (vO.out.step p12 m12);clear vO;clear p12 m12;rcases gH U4.out with ⟨pV,yh⟩ | ⟨pV,rfl⟩
   rotate_left
   ·have zM:=hid pV;clear pV;go_wp2_with fail;refine (mX g tv l en iv hF _ (k+1) _ _ mo.out.ps (by omega) zM.out).mono ?_;rintro e w13⟨rfl,RQ⟩;unfold aI;go_wp2_with fail;exact⟨rfl,aR.bad rfl ((H.out.low mo.out.mv).trans (RQ.mono (aaK mo.out.ps.lt)))⟩
   have zN:=hid yh;clear yh U4;have ZG:=fA pV (by simp);have zM:=hid pV;clear pV;go_wp2_with fail;refine (lC g tv l en iv hF _ (k+1) _ _ mo.out.ps (by omega) zM.out).mono ?_;rintro e w13⟨rfl,p13,m13⟩;have vP:=hid (mo.out.ps.aU m13 oD.out);clear oD;have qw:=hid (mo.out.step p13 m13);clear mo;clear p13 m13;unfold jl;have Nl:=hid (vP.out.alloc (.cells #[.int .u8 (tg l (k+1)).kind,.string (aM (tx l (k+1))),.int .i64 (pl l en (k+1))] 68));clear vP;have HN13:=hid (aC.new w13 68 #[.int .u8 (tg l (k+1)).kind,.string (aM (tx l (k+1))),.int .i64 (pl l en (k+1))]);have xI:=hid (qw.out.alloc (.cells #[.int .u8 (tg l (k+1)).kind,.string (aM (tx l (k+1))),.int .i64 (pl l en (k+1))] 68));clear qw;rcases dO zN.out with ⟨uY,G8⟩ | ⟨uY,rfl⟩
   rotate_left
   ·have F4:=hid uY;clear uY;go_wp2_with fail;refine (gQ g tv l en iv hF [61] (.inr (by decide +kernel)) _ ((k+1)+1) _ _ xI.out.ps (by omega) F4.out).mono ?_;rintro e Tx⟨rfl,RU⟩;unfold aI;go_wp2_with fail;exact⟨rfl,aR.bad rfl ((H.out.low xI.out.mv).trans (RU.mono (aaK xI.out.ps.lt)))⟩
   have Jq:=hid G8;clear G8 zN;have hlt14:=aP uY (by simp);have F4:=hid uY;clear uY;go_wp2_with fail;refine (eZ g tv l en iv hF [61] (.inr (by decide +kernel)) _ ((k+1)+1) _ _ xI.out.ps (by omega) F4.out).mono ?_;rintro e Tx⟨rfl,p14,m14⟩;have oF:=hid (xI.out.ps.aU m14 Nl.out);have FU:=hid (xI.out.ps.aU m14 HN13.out);clear Nl HN13;have jP:=hid (xI.out.step p14 m14);clear xI;clear p14 m14;rcases dW Jq.out with ⟨ks15,k15,ns15,G_,G9⟩ | ⟨kb15,G_,rfl⟩
   rotate_left
   ·have LG:=hid G_;clear G_;go_wp2_with fail;refine (C m (aaJ _) .expr rfl _ (((k+1)+1)+1) _ _ _ jP.out.ps (by omega) (by rw [jP.out.len];omega) (by rw [jP.out.ns];exact HW0.out) (by rw [jP.out.ns];exact LG.out)).mono ?_;rintro e JM⟨rfl,RV⟩;unfold aI;go_wp2_with fail;exact⟨rfl,aR.bad rfl ((H.out.low jP.out.mv).trans RV)⟩
   have LG:=hid G_;clear G_;have Ls:=hid G9;clear G9 Jq;go_wp2_with fail;refine (C m (aaJ _) .expr rfl _ (((k+1)+1)+1) _ _ _ jP.out.ps (by omega) (by rw [jP.out.len];omega) (by rw [jP.out.ns];exact HW0.out) (by rw [jP.out.ns];exact LG.out)).mono ?_;rintro e JM⟨rfl,ext15,aav,Oj⟩;have FR:=hid (aW LG.out (by omega) HW0.out (Ids.nil _) (by simp));have gl15:=FR.out.lo;have gf15:=FR.out.few;have ge15:=FR.out.le;have gn15:=FR.out.len;simp only [Job.reads] at gl15
   have nU:=hid (Oj.blk jP.out.ps oF.out (by decide) (by decide));have QA:=hid (Oj.blk jP.out.ps FU.out (by decide) (by decide));clear oF FU;have TT:=hid FR.out.wf;have qR:=hid (jP.out.trans Oj);clear jP;clear Oj;rcases dO Ls.out with ⟨uZ,Ou⟩ | ⟨uZ,rfl⟩
   rotate_left
   ·have F5:=hid uZ;clear uZ;go_wp2_with fail;refine (gQ g tv l en iv hF [105,110] (.inl (by decide +kernel)) _ k15 _ _ qR.out.ps (by omega) F5.out).mono ?_;rintro e w16⟨rfl,Zz⟩;unfold aI;go_wp2_with fail;exact⟨rfl,aR.bad rfl ((H.out.low qR.out.mv).trans (Zz.mono (aaK qR.out.ps.lt)))⟩
   have Q0:=hid Ou;clear Ou Ls;have hlt16:=aP uZ (by simp);have F5:=hid uZ;clear uZ;go_wp2_with fail;refine (eZ g tv l en iv hF [105,110] (.inl (by decide +kernel)) _ k15 _ _ qR.out.ps (by omega) F5.out).mono ?_;rintro e w16⟨rfl,p16,m16⟩;have pq:=hid (qR.out.ps.aU m16 nU.out);have xK:=hid (qR.out.ps.aU m16 QA.out);clear nU QA;have oC:=hid (qR.out.step p16 m16);clear qR;clear p16 m16;rcases dW Q0.out with ⟨OM,k17,ns17,He,ZM⟩ | ⟨kb17,He,rfl⟩
   rotate_left
   ·have LH:=hid He;clear He;have fH:=pq.out.cell 0;have fQ:=pq.out.cell 1;have fT:=pq.out.cell 2;have sl0:=pq.out.lt;have rD:=xK.out.cell 1;have sl1:=xK.out.lt;go_wp2_with fail;refine wp_region_held_drew (S:=fun w'=>w'.cell? ⟨w1.heap.size,0,none⟩=some (.int .u8 (tg l k).kind)∧w'.cell? ⟨w1.heap.size,1,none⟩=some (.string (aM (tx l k)))∧w'.cell? ⟨w1.heap.size,2,none⟩=some (.int .i64 (pl l en k))∧w'.cell? ⟨w13.heap.size,1,none⟩=some (.string (aM (tx l (k+1))))) (by kernel_rfl) ⟨fH,fQ,fT,rD⟩ (fun hHeld=>?_);refine bf 0 rfl hHeld ?_;simp only [Act.put,aaA,aaB,aaC];refine bf 1 rfl hHeld ?_;simp only [Act.put,aaA,aaB,aaC];refine bf 2 rfl hHeld ?_;simp only [Act.put,aaA,aaB,aaC];refine bf 3 rfl hHeld ?_;simp only [Act.put,aaA,aaB,aaC];refine bf 4 rfl hHeld ?_;simp only [Act.put,aaA,aaB,aaC];refine bf 5 rfl hHeld ?_;simp only [Act.put,aaA,aaB,aaC];refine wpAnyH_ready (rs:=[6]) (by kernel_rfl) (by simp) ?_;refine fJ (.s (.s (.s (.s (.s (.s .z)))))) (fun K hK=>?_);go_simp;refine (C m (aaJ _) .expr rfl _ (k15+1) _ _ _ oC.out.ps.drew (by omega) (by rw [oC.out.len];omega) (by rw [oC.out.ns];exact TT.out) (by rw [oC.out.ns];exact LH.out)).mono ?_;rintro e w17⟨rfl,zW⟩;unfold aI;go_wp2_with fail;exact⟨rfl,aR.bad rfl ((Below.drew (H.out.low oC.out.mv)).trans zW)⟩
   have LH:=hid He;clear He;have HR17:=hid ZM;clear ZM Q0;have Jl:=hid (aW LH.out (by omega) TT.out (Ids.nil _) (by simp));have gl17:=Jl.out.lo;have gf17:=Jl.out.few;have ge17:=Jl.out.le;have gn17:=Jl.out.len;simp only [Job.reads] at gl17
   have fH:=pq.out.cell 0;have fQ:=pq.out.cell 1;have fT:=pq.out.cell 2;have sl0:=pq.out.lt;have rD:=xK.out.cell 1;have sl1:=xK.out.lt;go_wp2_with fail
   go_region_held3 (fun w'=>w'.cell? ⟨w1.heap.size,0,none⟩=some (.int .u8 (tg l k).kind)∧w'.cell? ⟨w1.heap.size,1,none⟩=some (.string (aM (tx l k)))∧w'.cell? ⟨w1.heap.size,2,none⟩=some (.int .i64 (pl l en k))∧w'.cell? ⟨w13.heap.size,1,none⟩=some (.string (aM (tx l (k+1)))))
    (first | go_keep|(go_split_ands;refine⟨?_,?_,?_,?_⟩ <;> assumption))
    (first
     | (go_at_call 210;refine (C m (aaJ _) .expr rfl _ (k15+1) _ _ _ oC.out.ps.drew (by omega) (by rw [oC.out.len];omega) (by rw [oC.out.ns];exact TT.out) (by rw [oC.out.ns];exact LH.out)).mono ?_;rintro e w17⟨rfl,ext17,nv17,G5⟩;have nT:=hid (oC.out.drew.trans G5);have DN:=G5.blk oC.out.ps.drew pq.out.drew (by decide) (by decide);have wV:=DN.cell 0;have wW:=DN.cell 1;have wX:=DN.cell 2;have Xx:=DN.lt;have Ri:=hid DN;clear DN;have LW:=G5.blk oC.out.ps.drew xK.out.drew (by decide) (by decide);have Zl:=LW.cell 1;have dl1:=LW.lt;have Rj:=hid LW;clear LW;have hz17:=nT.out.mv.size;clear G5)
     | (go_at_call 204;refine (gB g tv l en iv ns17.length 20 _ _ _ (tx l (k+1)) 0 _ [hd ks15,hd OM] _ k17 _ _ (nT.out.ps.alloc _) (ug w17 (hd ks15) (hd OM)) nT.out.len (by omega)).mono ?_;rintro e w18⟨rfl,nv18,p18,m18⟩;have LX:=m18.blk (Ri.out.alloc _) (nT.out.ps.tag Ri.out (by decide) (by decide)).1 (nT.out.ps.tag Ri.out (by decide) (by decide)).2;have wY:=LX.cell 0;have wZ:=LX.cell 1;have w_:=LX.cell 2;clear LX;have Ze:=m18.blk (Rj.out.alloc _) (nT.out.ps.tag Rj.out (by decide) (by decide)).1 (nT.out.ps.tag Rj.out (by decide) (by decide)).2;have Zn:=Ze.cell 1;clear Ze;have EX:=hid ((At.alloc nT.out _).add p18 m18 (by intro b hb;simp [Value.ownBlock] at hb;omega));clear p18 m18))
   all_goals
    obtain rfl:=dV HR17.out;go_wp2_with fail;go_ret;exact aR.ok rfl EX.out
  ·skip;have QM:=hid D6;clear D6;have U4:=hid Oq;clear Oq;go_wp2_with fail;refine (kN g tv l en iv hF [108,101,116] (.inl (by decide +kernel)) _ k _ _ vO.out.ps (by omega) QM.out).mono ?_;rintro e w19⟨rfl,hb19⟩;have QE:=hid (o_.out.below hb19 o_.out.lt);clear o_;have tJ:=hid (vO.out.below hb19);clear vO;clear hb19;have HX:=hid U4.out;go_wp2_with fail;have HQ:=hid (C m (aaJ _) (.lv .or) rfl _ k _ _ r tJ.out.ps (by omega) (by rw [tJ.out.len];omega) (by rw [tJ.out.ns];exact HW0.out) (by rw [tJ.out.ns];exact HX.out))
   cases r with
   | bad kb =>
    refine HQ.out.mono ?_;rintro e wq⟨rfl,hbq⟩;unfold aI;go_wp2_with fail;exact⟨rfl,aR.bad rfl ((H.out.low tJ.out.mv).trans hbq)⟩
   | ok ksq kq nsq =>
    refine HQ.out.mono ?_;rintro e wq⟨rfl,extq,nvq,haq⟩;have HAQ:=hid (tJ.out.trans haq);clear haq;go_wp2_with fail;go_ret;exact aR.ok rfl HAQ.out
end
section
variable {g:Nat} {tv:Value} {l:List Tok} {en:Int} {iv:Value} (hF:PF l)
include hF
theorem part_put (m:Nat)(C:∀ f,f≤m→∀ j,isFn j=true→IC g tv l en iv f j)(CL:∀ f,f≤m→∀ e,LC g tv l en iv f e):IC g tv l en iv (m+1) .put:=by
 intro w k xs nv r h hk hn hw hr;have H:=hid h;clear h;have uD:=hid (At.refl H.out);have HW0:=hid hw;clear hw;have hn0:(aA xs).length≤k:=by rw [aD];exact hn
 have hlen:=hF.len;rw [run] at hr
 unfold t_;go_enter Tryz.func260,Tryz.ntmps260
 have qm:=hid hr;clear hr;rcases gH qm.out with ⟨he1,hr1⟩ | ⟨he1,rfl⟩
 rotate_left
 ·have xM:=hid he1;clear he1;go_wp2_with fail;refine (mX g tv l en iv hF _ k _ _ uD.out.ps (by omega) xM.out).mono ?_;rintro e w1⟨rfl,hb1⟩;unfold aI;go_wp2_with fail;exact⟨rfl,aR.bad rfl ((H.out.low uD.out.mv).trans (hb1.mono (aaK uD.out.ps.lt)))⟩
 have HR1:=hid hr1;clear hr1 qm;have hlt1:=fA he1 (by simp);have xM:=hid he1;clear he1;go_wp2_with fail;refine (lC g tv l en iv hF _ k _ _ uD.out.ps (by omega) xM.out).mono ?_;rintro e w1⟨rfl,p1,m1⟩;have HA1:=hid (uD.out.step p1 m1);skip;clear p1 m1;unfold jl;have og:=hid (aC.new w1 68 #[.int .u8 (tg l k).kind,.string (aM (tx l k)),.int .i64 (pl l en k)]);have aZ:=hid (HA1.out.alloc (.cells #[.int .u8 (tg l k).kind,.string (aM (tx l k)),.int .i64 (pl l en k)] 68));clear HA1;rcases dO HR1.out with ⟨he2,hr2⟩ | ⟨he2,rfl⟩
 rotate_left
 ·have HE2:=hid he2;clear he2;go_wp2_with fail;refine (gQ g tv l en iv hF [58] (.inr (by decide +kernel)) _ (k+1) _ _ aZ.out.ps (by omega) HE2.out).mono ?_;rintro e w2⟨rfl,hb2⟩;unfold aI;go_wp2_with fail;exact⟨rfl,aR.bad rfl ((H.out.low aZ.out.mv).trans (hb2.mono (aaK aZ.out.ps.lt)))⟩
 have HR2:=hid hr2;clear hr2 HR1;have hlt2:=aP he2 (by simp);have HE2:=hid he2;clear he2;go_wp2_with fail;refine (eZ g tv l en iv hF [58] (.inr (by decide +kernel)) _ (k+1) _ _ aZ.out.ps (by omega) HE2.out).mono ?_;rintro e w2⟨rfl,p2,m2⟩;have eY:=hid (aZ.out.ps.aU m2 og.out);clear og;have HA2:=hid (aZ.out.step p2 m2);clear aZ;clear p2 m2;rcases dW HR2.out with ⟨Uq,k3,uK,hx3,hr3⟩ | ⟨kb3,hx3,rfl⟩
 rotate_left
 ·have Fy:=hid hx3;clear hx3;have fH:=eY.out.cell 0;have fQ:=eY.out.cell 1;have fT:=eY.out.cell 2;have sl0:=eY.out.lt;go_wp2_with fail;refine wp_region_held_drew (S:=fun w'=>w'.cell? ⟨w1.heap.size,0,none⟩=some (.int .u8 (tg l k).kind)∧w'.cell? ⟨w1.heap.size,1,none⟩=some (.string (aM (tx l k)))∧w'.cell? ⟨w1.heap.size,2,none⟩=some (.int .i64 (pl l en k))) (by kernel_rfl) ⟨fH,fQ,fT⟩ (fun hHeld=>?_);refine bf 0 rfl hHeld ?_;simp only [Act.put,aaA,aaB,aaC];refine bf 1 rfl hHeld ?_;simp only [Act.put,aaA,aaB,aaC];refine bf 2 rfl hHeld ?_;simp only [Act.put,aaA,aaB,aaC];refine bf 3 rfl hHeld ?_;simp only [Act.put,aaA,aaB,aaC];refine bf 4 rfl hHeld ?_;simp only [Act.put,aaA,aaB,aaC];refine wpAnyH_ready (rs:=[5]) (by kernel_rfl) (by simp) ?_;refine fJ (.s (.s (.s (.s (.s .z))))) (fun K hK=>?_);go_simp;refine (C m (aaJ _) .expr rfl _ ((k+1)+1) _ _ _ HA2.out.ps.drew (by omega) (by rw [HA2.out.len];omega) (by rw [HA2.out.ns];exact HW0.out) (by rw [HA2.out.ns];exact Fy.out)).mono ?_;rintro e w3⟨rfl,hb3⟩;unfold aI;go_wp2_with fail;exact⟨rfl,aR.bad rfl ((Below.drew (H.out.low HA2.out.mv)).trans hb3)⟩
 have Fy:=hid hx3;clear hx3;have HR3:=hid hr3;clear hr3 HR2;have EW:=hid (aW Fy.out (by omega) HW0.out (Ids.nil _) (by simp));have gl3:=EW.out.lo;have gf3:=EW.out.few;have ge3:=EW.out.le;have gn3:=EW.out.len;simp only [Job.reads] at gl3
 have fH:=eY.out.cell 0;have fQ:=eY.out.cell 1;have fT:=eY.out.cell 2;have sl0:=eY.out.lt;go_wp2_with fail
 go_region_held3 (fun w'=>w'.cell? ⟨w1.heap.size,0,none⟩=some (.int .u8 (tg l k).kind)∧w'.cell? ⟨w1.heap.size,1,none⟩=some (.string (aM (tx l k)))∧w'.cell? ⟨w1.heap.size,2,none⟩=some (.int .i64 (pl l en k)))
  (first | go_keep|(go_split_ands;refine⟨?_,?_,?_⟩ <;> assumption))
  (first
   | (go_at_call 210;refine (C m (aaJ _) .expr rfl _ ((k+1)+1) _ _ _ HA2.out.ps.drew (by omega) (by rw [HA2.out.len];omega) (by rw [HA2.out.ns];exact HW0.out) (by rw [HA2.out.ns];exact Fy.out)).mono ?_;rintro e w3⟨rfl,ext3,FM,FK⟩;have gM:=hid (HA2.out.drew.trans FK);have kZ:=FK.blk HA2.out.ps.drew eY.out.drew (by decide) (by decide);have wV:=kZ.cell 0;have wW:=kZ.cell 1;have wX:=kZ.cell 2;have Xx:=kZ.lt;have r9:=hid kZ;clear kZ;have hz3:=gM.out.mv.size;clear FK)
   | (go_at_call 204;refine (gB g tv l en iv uK.length 25 _ _ _ (tx l k) 0 _ [hd Uq] _ k3 _ _ (gM.out.ps.alloc _) (rH w3 (hd Uq)) gM.out.len (by omega)).mono ?_;rintro e w4⟨rfl,yH,p4,m4⟩;have oI:=m4.blk (r9.out.alloc _) (gM.out.ps.tag r9.out (by decide) (by decide)).1 (gM.out.ps.tag r9.out (by decide) (by decide)).2;have wY:=oI.cell 0;have wZ:=oI.cell 1;have w_:=oI.cell 2;clear oI;have fq:=hid ((At.alloc gM.out _).add p4 m4 (by intro b hb;simp [Value.ownBlock] at hb;omega));clear p4 m4))
 all_goals
  obtain rfl:=dV HR3.out;go_wp2_with fail;go_ret;exact aR.ok rfl fq.out
end
section
variable {g:Nat} {tv:Value} {l:List Tok} {en:Int} {iv:Value} (hF:PF l)
include hF
theorem Sw (m:Nat)(C:∀ f,f≤m→∀ j,isFn j=true→IC g tv l en iv f j)(CL:∀ f,f≤m→∀ e,LC g tv l en iv f e):IC g tv l en iv (m+1) .param:=by
 intro w k xs nv r h hk hn hw hr;have H:=hid h;clear h;have uD:=hid (At.refl H.out);have HW0:=hid hw;clear hw;have hn0:(aA xs).length≤k:=by rw [aD];exact hn
 have hlen:=hF.len;rw [run] at hr
 unfold t_;go_enter Tryz.func206,Tryz.ntmps206
 have qm:=hid hr;clear hr;rcases gH qm.out with ⟨he1,hr1⟩ | ⟨he1,rfl⟩
 rotate_left
 ·have xM:=hid he1;clear he1;go_wp2_with fail;refine (mX g tv l en iv hF _ k _ _ uD.out.ps (by omega) xM.out).mono ?_;rintro e w1⟨rfl,hb1⟩;unfold aI;go_wp2_with fail;exact⟨rfl,aR.bad rfl ((H.out.low uD.out.mv).trans (hb1.mono (aaK uD.out.ps.lt)))⟩
 have HR1:=hid hr1;clear hr1 qm;have hlt1:=fA he1 (by simp);have xM:=hid he1;clear he1;go_wp2_with fail;refine (lC g tv l en iv hF _ k _ _ uD.out.ps (by omega) xM.out).mono ?_;rintro e w1⟨rfl,p1,m1⟩;have HA1:=hid (uD.out.step p1 m1);skip;clear p1 m1;unfold jl;have og:=hid (aC.new w1 68 #[.int .u8 (tg l k).kind,.string (aM (tx l k)),.int .i64 (pl l en k)]);have aZ:=hid (HA1.out.alloc (.cells #[.int .u8 (tg l k).kind,.string (aM (tx l k)),.int .i64 (pl l en k)] 68));clear HA1;rcases dO HR1.out with ⟨he2,hr2⟩ | ⟨he2,rfl⟩
 rotate_left
 ·have HE2:=hid he2;clear he2;go_wp2_with fail;refine (gQ g tv l en iv hF [58] (.inr (by decide +kernel)) _ (k+1) _ _ aZ.out.ps (by omega) HE2.out).mono ?_;rintro e w2⟨rfl,hb2⟩;unfold aI;go_wp2_with fail;exact⟨rfl,aR.bad rfl ((H.out.low aZ.out.mv).trans (hb2.mono (aaK aZ.out.ps.lt)))⟩
 have HR2:=hid hr2;clear hr2 HR1;have hlt2:=aP he2 (by simp);have HE2:=hid he2;clear he2;go_wp2_with fail;refine (eZ g tv l en iv hF [58] (.inr (by decide +kernel)) _ (k+1) _ _ aZ.out.ps (by omega) HE2.out).mono ?_;rintro e w2⟨rfl,p2,m2⟩;have eY:=hid (aZ.out.ps.aU m2 og.out);clear og;have HA2:=hid (aZ.out.step p2 m2);clear aZ;clear p2 m2;rcases dW HR2.out with ⟨Uq,k3,uK,hx3,hr3⟩ | ⟨kb3,hx3,rfl⟩
 rotate_left
 ·have Fy:=hid hx3;clear hx3;have fH:=eY.out.cell 0;have fQ:=eY.out.cell 1;have fT:=eY.out.cell 2;have sl0:=eY.out.lt;go_wp2_with fail;refine wp_region_held_drew (S:=fun w'=>w'.cell? ⟨w1.heap.size,0,none⟩=some (.int .u8 (tg l k).kind)∧w'.cell? ⟨w1.heap.size,1,none⟩=some (.string (aM (tx l k)))∧w'.cell? ⟨w1.heap.size,2,none⟩=some (.int .i64 (pl l en k))) (by kernel_rfl) ⟨fH,fQ,fT⟩ (fun hHeld=>?_);refine bf 0 rfl hHeld ?_;simp only [Act.put,aaA,aaB,aaC];refine bf 1 rfl hHeld ?_;simp only [Act.put,aaA,aaB,aaC];refine bf 2 rfl hHeld ?_;simp only [Act.put,aaA,aaB,aaC];refine bf 3 rfl hHeld ?_;simp only [Act.put,aaA,aaB,aaC];refine bf 4 rfl hHeld ?_;simp only [Act.put,aaA,aaB,aaC];refine wpAnyH_ready (rs:=[5]) (by kernel_rfl) (by simp) ?_;refine fJ (.s (.s (.s (.s (.s .z))))) (fun K hK=>?_);go_simp;refine (C m (aaJ _) .typ rfl _ ((k+1)+1) _ _ _ HA2.out.ps.drew (by omega) (by rw [HA2.out.len];omega) (by rw [HA2.out.ns];exact HW0.out) (by rw [HA2.out.ns];exact Fy.out)).mono ?_;rintro e w3⟨rfl,hb3⟩;unfold aI;go_wp2_with fail;exact⟨rfl,aR.bad rfl ((Below.drew (H.out.low HA2.out.mv)).trans hb3)⟩
 have Fy:=hid hx3;clear hx3;have HR3:=hid hr3;clear hr3 HR2;have EW:=hid (aW Fy.out (by omega) HW0.out (Ids.nil _) (by simp));have gl3:=EW.out.lo;have gf3:=EW.out.few;have ge3:=EW.out.le;have gn3:=EW.out.len;simp only [Job.reads] at gl3
 have fH:=eY.out.cell 0;have fQ:=eY.out.cell 1;have fT:=eY.out.cell 2;have sl0:=eY.out.lt;go_wp2_with fail
 go_region_held3 (fun w'=>w'.cell? ⟨w1.heap.size,0,none⟩=some (.int .u8 (tg l k).kind)∧w'.cell? ⟨w1.heap.size,1,none⟩=some (.string (aM (tx l k)))∧w'.cell? ⟨w1.heap.size,2,none⟩=some (.int .i64 (pl l en k)))
  (first | go_keep|(go_split_ands;refine⟨?_,?_,?_⟩ <;> assumption))
  (first
   | (go_at_call 207;refine (C m (aaJ _) .typ rfl _ ((k+1)+1) _ _ _ HA2.out.ps.drew (by omega) (by rw [HA2.out.len];omega) (by rw [HA2.out.ns];exact HW0.out) (by rw [HA2.out.ns];exact Fy.out)).mono ?_;rintro e w3⟨rfl,ext3,FM,FK⟩;have gM:=hid (HA2.out.drew.trans FK);have kZ:=FK.blk HA2.out.ps.drew eY.out.drew (by decide) (by decide);have wV:=kZ.cell 0;have wW:=kZ.cell 1;have wX:=kZ.cell 2;have Xx:=kZ.lt;have r9:=hid kZ;clear kZ;have hz3:=gM.out.mv.size;clear FK)
   | (go_at_call 204;refine (gB g tv l en iv uK.length 34 _ _ _ (tx l k) 0 _ [hd Uq] _ k3 _ _ (gM.out.ps.alloc _) (rH w3 (hd Uq)) gM.out.len (by omega)).mono ?_;rintro e w4⟨rfl,yH,p4,m4⟩;have oI:=m4.blk (r9.out.alloc _) (gM.out.ps.tag r9.out (by decide) (by decide)).1 (gM.out.ps.tag r9.out (by decide) (by decide)).2;have wY:=oI.cell 0;have wZ:=oI.cell 1;have w_:=oI.cell 2;clear oI;have fq:=hid ((At.alloc gM.out _).add p4 m4 (by intro b hb;simp [Value.ownBlock] at hb;omega));clear p4 m4))
 all_goals
  obtain rfl:=dV HR3.out;go_wp2_with fail;go_ret;exact aR.ok rfl fq.out
end
end Go.Proofs.YthepmkjggfijoaaGreatDoor
