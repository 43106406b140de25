/-
  A part of the proof.
-/
import Derived.Test.YtflnfhhgamldhaaGreatDoorS12
set_option linter.all false
set_option maxRecDepth 100000
set_option maxHeartbeats 4000000
namespace Go.Proofs.YtflnfhhgamldhaaGreatDoor
open Go.RowKit Mist
attribute [local go_sem] ah aM aV au ak
section
variable {g:Nat} {tv:Value} {l:List Tok} {en:Int} {iv:Value} (hF:PF l)
include hF
theorem UL (m:Nat)(w:World)(k:Nat)(xs:List NV)(nv:Value)(r:kX)(h:PS g tv l en iv w (k+1) xs nv)(hk:k+1≤l.length)(hn:xs.length≤k)(hw:Wf (aF xs))(hr:iq l en m .zY k (aF xs)=some r) :
  Calls Tryz.prog 126 #[.pointer (some ⟨g,0,none⟩),.agg #[.int .u8 (tg l k).kind,.string (aH (tx l k)),.int .i64 (pl l en k)]] w (aZ g tv l en iv w xs nv r):=by
 have C:=fun (f:Nat) (_:f≤m) (j:Job) (hj:isFn j=true)=>oG (g:=g) (tv:=tv) (en:=en) (iv:=iv) hF f j hj
 have CL:=fun (f:Nat) (_:f≤m) (e:El)=>oz (g:=g) (tv:=tv) (en:=en) (iv:=iv) hF f e
 have H:=O h;clear h;have nN:=O ((At.refl H.o).alloc (.cells #[.int .u8 (tg l k).kind,.string (aH (tx l k)),.int .i64 (pl l en k)] 80));have vL:=O (bf.new w 80 #[.int .u8 (tg l k).kind,.string (aH (tx l k)),.int .i64 (pl l en k)]);have B:=O hw;clear hw;have hn0:(aF xs).length≤k:=by rw [dL];exact hn
 have d:=hF.len;unfold iq at hr
 have qV:=O hr;clear hr;go_in
 obtain⟨i0,Q,R,S,T⟩:=info_parts kR;rcases fO qV.o with ⟨N,hr1⟩ | ⟨N,rfl⟩
 rotate_left
 ·have um:=O N;clear N;go_wp2_with fail;refine (mo g tv l en iv hF _ (k+1) _ _ nN.o.ps (by omega) um.o).mono ?_;rintro e w1⟨rfl,hb1⟩
  (try unfold aW)
  go_wp2_with fail;exact⟨rfl,aZ.bad rfl ((H.o.low nN.o.mv).trans (hb1.mono (ak1 nN.o.ps.lt)))⟩
 have HR1:=O hr1;clear hr1 qV;have hlt1:=h_ N (by simp);have um:=O N;clear N;go_wp2_with fail;refine (kE g tv l en iv hF _ (k+1) _ _ nN.o.ps (by omega) um.o).mono ?_;rintro e w1⟨rfl,p1,m1⟩;have qU:=O (nN.o.ps.aY m1 vL.o);clear vL;have HA1:=O (nN.o.step p1 m1);clear nN;clear p1 m1;unfold iW;have jP:=O (qU.o.alloc (.cells #[.int .u8 (tg l (k+1)).kind,.string (aH (tx l (k+1))),.int .i64 (pl l en (k+1))] 80));clear qU;have nP:=O (bf.new w1 80 #[.int .u8 (tg l (k+1)).kind,.string (aH (tx l (k+1))),.int .i64 (pl l en (k+1))]);have bJ:=O (HA1.o.alloc (.cells #[.int .u8 (tg l (k+1)).kind,.string (aH (tx l (k+1))),.int .i64 (pl l en (k+1))] 80));clear HA1;rcases dP HR1.o with ⟨P,hr2⟩ | ⟨P,rfl⟩
 rotate_left
 ·have HE2:=O P;clear P;go_wp2_with fail;refine (f_ g tv l en iv hF [40] (.inr (by decide +kernel)) _ ((k+1)+1) _ _ bJ.o.ps (by omega) HE2.o).mono ?_;rintro e w2⟨rfl,hb2⟩
  (try unfold aW)
  go_wp2_with fail;exact⟨rfl,aZ.bad rfl ((H.o.low bJ.o.mv).trans (hb2.mono (ak1 bJ.o.ps.lt)))⟩
 have HR2:=O hr2;clear hr2 HR1;have hlt2:=cB P (by simp);have HE2:=O P;clear P;go_wp2_with fail;refine (eP g tv l en iv hF [40] (.inr (by decide +kernel)) _ ((k+1)+1) _ _ bJ.o.ps (by omega) HE2.o).mono ?_;rintro e w2⟨rfl,p2,m2⟩;have eH:=O (bJ.o.ps.aY m2 jP.o);have lq:=O (bJ.o.ps.aY m2 nP.o);clear jP nP;have M:=O (bJ.o.step p2 m2);clear bJ;clear p2 m2;rcases fT HR2.o with ⟨Ah,hr3⟩ | ⟨Ah,hr3⟩
 ·skip;have hlt3:=cB Ah (by simp);have NZ:=O Ah;clear Ah;have HR3:=O hr3;clear hr3;go_wp2_with fail;refine (uS [41] (.inr (by decide +kernel)) g tv l en iv _ (((k+1)+1)+1) _ _ (M.o.alloc _).ps (by omega) d hF.kind _ _ 9 (0,0) (heap_alloc_new _ _) true (by simp [NZ.o])).mono ?_;rintro e w4⟨rfl,hb4⟩;have gL:=O ((eH.o.alloc (.cells #[.string (aH [41])] 9)).below hb4 (eH.o.alloc (.cells #[.string (aH [41])] 9)).lt);have uj:=O ((lq.o.alloc (.cells #[.string (aH [41])] 9)).below hb4 (lq.o.alloc (.cells #[.string (aH [41])] 9)).lt);clear eH lq;have iw:=O ((M.o.alloc (.cells #[.string (aH [41])] 9)).below hb4);clear M;clear hb4;have HVN:=O (show w4.ownsRow w.heap.size 3 1 (.slice none 0 0) 0 (intCells []) from World.ownsRow_nil _ _ _ _);have HQN:=O (show ([]:List Int).length=0 from rfl);have X3:=O (ne_nil (ext:=[]));have a:=HR3.o;unfold oJ at a;have afU:=O a;clear a
  rcases dP afU.o with ⟨Uz,R6⟩ | ⟨Uz,rfl⟩
  rotate_left
  ·have HE6:=O Uz;clear Uz;go_wp2_with fail;refine (f_ g tv l en iv hF [41] (.inr (by decide +kernel)) _ (((k+1)+1)+1) _ _ iw.o.ps (by omega) HE6.o).mono ?_;rintro e w6⟨rfl,hb6⟩
   (try unfold aW)
   go_wp2_with fail;exact⟨rfl,aZ.bad rfl ((H.o.low iw.o.mv).trans (hb6.mono (ak1 iw.o.ps.lt)))⟩
  have zA:=O R6;clear R6 afU;have aiv:=cB Uz (by simp);have HE6:=O Uz;clear Uz;go_wp2_with fail;refine (eP g tv l en iv hF [41] (.inr (by decide +kernel)) _ (((k+1)+1)+1) _ _ iw.o.ps (by omega) HE6.o).mono ?_;rintro e w6⟨rfl,p6,m6⟩;have nG:=O (iw.o.ps.aY m6 gL.o);have adf:=O (iw.o.ps.aY m6 uj.o);clear gL uj;have adu:=O (iw.o.ps.iV m6 HVN.o (by decide) (by decide));clear HVN;have pR:=O (iw.o.step p6 m6);clear iw;clear p6 m6;rcases dP zA.o with ⟨Al,Zj⟩ | ⟨Al,rfl⟩
  rotate_left
  ·have N_:=O Al;clear Al;go_wp2_with fail;refine (f_ g tv l en iv hF [58] (.inr (by decide +kernel)) _ ((((k+1)+1)+1)+1) _ _ pR.o.ps (by omega) N_.o).mono ?_;rintro e w7⟨rfl,pF⟩
   (try unfold aW)
   go_wp2_with fail;exact⟨rfl,aZ.bad rfl ((H.o.low pR.o.mv).trans (pF.mono (ak1 pR.o.ps.lt)))⟩
  have OJ:=O Zj;clear Zj zA;have ae0:=cB Al (by simp);have N_:=O Al;clear Al;go_wp2_with fail;refine (eP g tv l en iv hF [58] (.inr (by decide +kernel)) _ ((((k+1)+1)+1)+1) _ _ pR.o.ps (by omega) N_.o).mono ?_;rintro e w7⟨rfl,p7,m7⟩;have jQ:=O (pR.o.ps.aY m7 nG.o);have adg:=O (pR.o.ps.aY m7 adf.o);clear nG adf;have Yi:=O (pR.o.ps.iV m7 adu.o (by decide) (by decide));clear adu;have F:=O (pR.o.step p7 m7);clear pR;clear p7 m7;rcases dY OJ.o with ⟨Y,t,ns8,Bo,LV⟩ | ⟨kb8,Bo,rfl⟩
  rotate_left
  ·have I9:=O Bo;clear Bo;go_wp2_with fail;refine (C m (ak0 _) .typ rfl _ (((((k+1)+1)+1)+1)+1) _ _ _ F.o.ps (by omega) (by rw [F.o.len];omega) (by rw [F.o.ns];exact B.o) (by rw [F.o.ns];exact I9.o)).mono ?_;rintro e w8⟨rfl,Bh⟩
   (try unfold aW)
   go_wp2_with fail;exact⟨rfl,aZ.bad rfl ((H.o.low F.o.mv).trans Bh)⟩
  have I9:=O Bo;clear Bo;have FR:=O LV;clear LV OJ;go_wp2_with fail;refine (C m (ak0 _) .typ rfl _ (((((k+1)+1)+1)+1)+1) _ _ _ F.o.ps (by omega) (by rw [F.o.len];omega) (by rw [F.o.ns];exact B.o) (by rw [F.o.ns];exact I9.o)).mono ?_;rintro e w8⟨rfl,aeG,U7,GZ⟩;have FN:=O (dG I9.o (by omega) B.o (Ids.nil _) (by simp));have gl8:=FN.o.lo;have gf8:=FN.o.few;have ge8:=FN.o.le;have gn8:=FN.o.len;simp only [Job.reads] at gl8
  have rT:=O (GZ.blk F.o.ps jQ.o (by decide) (by decide));have afE:=O (GZ.blk F.o.ps adg.o (by decide) (by decide));clear jQ adg;have XZ:=O (rD X3.o GZ.fresh (fun b c=>(Yi.o.lt b c).2));clear X3;have xK:=O (F.o.ps.iV GZ.mv Yi.o (by decide) (by decide));clear Yi;have KN:=O FN.o.wf;have wD:=O (F.o.trans GZ);clear F;clear GZ
  go_wp2_with (at_builtin
               refine wpList_append_lies _ rfl (.tmp 22) (.tmp 25) 30 rfl w.heap.size 3 i0 _ 1 8 Tryz.underlying30 Q R S T rfl (by decide) _ 0 (intCells []) rfl
                 (xK.o.alloc _) ⟨w8.heap.size,0,none⟩ 1 1 [.int .i64 (hd Y)] rfl rfl (iD _ _ _) (by intro u v;simp at v;subst v;rfl) (by omega) (by simp only [maxLen];omega) (by omega) (by have:=wD.o.mv.size;simp;omega) (w8.heap.size+1) (by simp) ?_
               intro gg9 YK w9 LB hg9 Y1 aeV)
  have X0:=O (oV wD.o.ps XZ.o Y1 (0+1) YK);clear Y1;have lC:=O (fC rT.o xK.o hg9 (by decide));have Kt:=O (fC afE.o xK.o hg9 (by decide));have sK:=O ((wD.o.alloc (.cells #[.int .i64 (hd Y)] 3)).grown H.o xK.o (by decide) hg9 XZ.o);have HV9:=O (show w9.ownsRow w.heap.size 3 1 (.slice (some ⟨gg9,0,none⟩) (0+1) YK) (0+1) (intCells ([] ++ [hd Y])) by rw [fU];exact LB);clear LB;have HQ9:=O (show ([] ++ [hd Y]).length=0+1 by rw [ak5,HQN.o];rfl);clear hg9 aeV;rcases fT FR.o with ⟨z_,yC⟩ | ⟨z_,yC⟩
  ·skip;have agq:=cB z_ (by simp);have Ov:=O z_;clear z_;have BZ:=O yC;clear yC;go_wp2_with fail;refine (jI g tv l en iv hF [117,112,116,111] (.inl (by decide +kernel)) _ t _ _ sK.o.ps (by omega) Ov.o).mono ?_;rintro e AX⟨rfl,p11,m11⟩;have lK:=O (sK.o.ps.aY m11 lC.o);have Om:=O (sK.o.ps.aY m11 Kt.o);clear lC Kt;have X8:=O (sK.o.ps.iV m11 HV9.o (by decide) (by decide));clear HV9;have nA:=O (sK.o.step p11 m11);clear sK;clear p11 m11;go_wp2_with fail;refine (iQ g tv l en iv _ (t+1) _ _ nA.o.ps (by omega) d).mono ?_;rintro e tC⟨rfl,DT⟩;have nD:=O (lK.o.below DT lK.o.lt);have Xg:=O (Om.o.below DT Om.o.lt);clear lK Om;have X9:=O (own_below X8.o DT);clear X8;have Z:=O (nA.o.below DT);clear nA;clear DT;rcases fT BZ.o with ⟨oo,uQ⟩ | ⟨oo,uQ⟩
   ·skip;have Y_:=cB oo (by simp);have wE:=O oo;clear oo;have wG:=O uQ;clear uQ;have q0:(tx l (t+1) == [48])=true:=SX _ [48] wE.o;have tf1:=l6;obtain rfl:kX.bad (t+1)=r:=ak6 wG.o;go_wp2_with fail;refine (qw g tv l en iv _ (t+1) _ _ Z.o.ps (by omega) d).mono ?_;rintro e wq⟨rfl,hbq⟩
    (try unfold aW)
    go_wp2_with fail;exact⟨rfl,aZ.bad rfl ((H.o.low Z.o.mv).trans (hbq.mono (ak1 Z.o.ps.lt)))⟩
   ·skip;have wE:=O oo;clear oo;have wG:=O uQ;clear uQ;have q0:(tx l (t+1) == [48])=false:=Iu _ [48] wE.o;have tf1:=l6;go_wp2_with fail;clear q0;rcases fO wG.o with ⟨rZ,DU⟩ | ⟨rZ,rfl⟩
    rotate_left
    ·have Df:=O rZ;clear rZ;refine (sw g tv l en iv hF _ (t+1) _ _ Z.o.ps (by omega) Df.o).mono ?_;rintro e Rm⟨rfl,PN⟩
     (try unfold aW)
     go_wp2_with fail;exact⟨rfl,aZ.bad rfl ((H.o.low Z.o.mv).trans (PN.mono (ak1 Z.o.ps.lt)))⟩
    have FZ:=O DU;clear DU wG;have adM:=h_ rZ (by simp);have Df:=O rZ;clear rZ;refine (oD g tv l en iv hF _ (t+1) _ _ Z.o.ps (by omega) Df.o).mono ?_;rintro e Rm⟨rfl,p14,m14⟩;have nE:=O (Z.o.ps.aY m14 nD.o);have C8:=O (Z.o.ps.aY m14 Xg.o);clear nD Xg;have X_:=O (Z.o.ps.iV m14 X9.o (by decide) (by decide));clear X9;have jw:=O (Z.o.step p14 m14);clear Z;clear p14 m14;unfold iW;have a:=FZ.o;unfold mQ at a;have ado:=O a;clear a
    rcases dP ado.o with ⟨r9,LM⟩ | ⟨r9,rfl⟩
    rotate_left
    ·have Dg:=O r9;clear r9;go_wp2_with fail;refine (f_ g tv l en iv hF [61] (.inr (by decide +kernel)) _ ((t+1)+1) _ _ jw.o.ps (by omega) Dg.o).mono ?_;rintro e w16⟨rfl,Y3⟩
     (try unfold aW)
     go_wp2_with fail;exact⟨rfl,aZ.bad rfl ((H.o.low jw.o.mv).trans (Y3.mono (ak1 jw.o.ps.lt)))⟩
    have OH:=O LM;clear LM ado;have adN:=cB r9 (by simp);have Dg:=O r9;clear r9;go_wp2_with fail;refine (eP g tv l en iv hF [61] (.inr (by decide +kernel)) _ ((t+1)+1) _ _ jw.o.ps (by omega) Dg.o).mono ?_;rintro e w16⟨rfl,p16,m16⟩;have nT:=O (jw.o.ps.aY m16 nE.o);have uh:=O (jw.o.ps.aY m16 C8.o);clear nE C8;have OM:=O (jw.o.ps.iV m16 X_.o (by decide) (by decide));clear X_;have E:=O (jw.o.step p16 m16);clear jw;clear p16 m16;rcases dY OH.o with ⟨Me,k17,afb,DX,Zg⟩ | ⟨aiB,DX,rfl⟩
    rotate_left
    ·have I8:=O DX;clear DX;go_wp2_with fail;refine (C m (ak0 _) .expr rfl _ (((t+1)+1)+1) _ _ _ E.o.ps (by omega) (by rw [E.o.len];omega) (by rw [E.o.ns];exact KN.o) (by rw [E.o.ns];exact I8.o)).mono ?_;rintro e w17⟨rfl,wK⟩
     (try unfold aW)
     go_wp2_with fail;exact⟨rfl,aZ.bad rfl ((H.o.low E.o.mv).trans wK)⟩
    have I8:=O DX;clear DX;have aeo:=O Zg;clear Zg OH;go_wp2_with fail;refine (C m (ak0 _) .expr rfl _ (((t+1)+1)+1) _ _ _ E.o.ps (by omega) (by rw [E.o.len];omega) (by rw [E.o.ns];exact KN.o) (by rw [E.o.ns];exact I8.o)).mono ?_;rintro e w17⟨rfl,aga,aiW,DR⟩;have FV:=O (dG I8.o (by omega) KN.o (Ids.nil _) (by simp));have aeM:=FV.o.lo;have ahN:=FV.o.few;have ahL:=FV.o.le;have ah3:=FV.o.len;simp only [Job.reads] at aeM
    have jA:=O (DR.blk E.o.ps nT.o (by decide) (by decide));have Xh:=O (DR.blk E.o.ps uh.o (by decide) (by decide));clear nT uh;have adh:=O (rD X0.o DR.fresh (fun b c=>(OM.o.lt b c).2));clear X0;have zI:=O (E.o.ps.iV DR.mv OM.o (by decide) (by decide));clear OM;have ajf:=O FV.o.wf;have mV:=O (E.o.trans DR);clear E;clear DR
    go_wp2_with (at_builtin
                 refine wpList_append_lies _ rfl (.tmp 42) (.tmp 45) 30 rfl w.heap.size 3 i0 _ 1 8 Tryz.underlying30 Q R S T rfl (by decide) _ (0+1) (intCells ([] ++ [hd Y])) rfl
                   (zI.o.alloc _) ⟨w17.heap.size,0,none⟩ 1 1 [.int .i64 (hd Me)] rfl rfl (iD _ _ _) (by intro u v;simp at v;subst v;rfl) (by omega) (by simp only [maxLen];omega) (by omega) (by have:=mV.o.mv.size;simp;omega) (w17.heap.size+1) (by simp) ?_
                 intro ahO adz w18 Zb UD adH agj;have i:=fC jA.o zI.o UD (by decide);have SL:=i.cell 0;have SN:=i.cell 1;have SQ:=i.cell 2;have ac5:=i.lt;have YJ:=fC Xh.o zI.o UD (by decide);have abm:=YJ.cell 1;have afA:=YJ.lt)
    have ai':=O (oV mV.o.ps adh.o adH ((0+1)+1) adz);clear adH;have IK:=O (fC jA.o zI.o UD (by decide));have Xi:=O (fC Xh.o zI.o UD (by decide));have BQ:=O ((mV.o.alloc (.cells #[.int .i64 (hd Me)] 3)).grown H.o zI.o (by decide) UD adh.o);have afW:=O (show w18.ownsRow w.heap.size 3 1 (.slice (some ⟨ahO,0,none⟩) ((0+1)+1) adz) ((0+1)+1) (intCells (([] ++ [hd Y]) ++ [hd Me])) by rw [fU];exact Zb);clear Zb;have ahj:=O (show (([] ++ [hd Y]) ++ [hd Me]).length=(0+1)+1 by rw [ak5,HQ9.o];rfl);clear UD agj;obtain rfl:=dW aeo.o;have fA:=IK.o.cell 0;have fH:=IK.o.cell 1;have fI:=IK.o.cell 2;have sl0:=IK.o.lt;have pV:=Xi.o.cell 1;have sl1:=Xi.o.lt;refine (gI g tv l en iv afb.length 42 _ _ _ (tx l (k+1)) ((numOf (tx l (t+1)):Nat):Int) _ (([] ++ [hd Y]) ++ [hd Me]) _ k17 _ _ BQ.o.ps (D9 ahj.o afW.o) BQ.o.len (by omega)).mono ?_;rintro e w19⟨rfl,aiX,p19,m19⟩;have qg:=O (BQ.o.add p19 m19 (fun b c=>(afW.o.lt b c).1));clear p19 m19;go_wp2_with fail;go_ret;exact aZ.ok rfl qg.o
  ·skip;have Ov:=O z_;clear z_;have BZ:=O yC;clear yC;go_wp2_with fail;refine (kY g tv l en iv hF [117,112,116,111] (.inl (by decide +kernel)) _ t _ _ sK.o.ps (by omega) Ov.o).mono ?_;rintro e w20⟨rfl,PU⟩;have C9:=O (lC.o.below PU lC.o.lt);have Xj:=O (Kt.o.below PU Kt.o.lt);clear lC Kt;have Yb:=O (own_below HV9.o PU);clear HV9;have tT:=O (sK.o.below PU);clear sK;clear PU;have a:=BZ.o;unfold mQ at a;have adp:=O a;clear a
   rcases dP adp.o with ⟨Jl,LU⟩ | ⟨Jl,rfl⟩
   rotate_left
   ·have aed:=O Jl;clear Jl;go_wp2_with fail;refine (f_ g tv l en iv hF [61] (.inr (by decide +kernel)) _ t _ _ tT.o.ps (by omega) aed.o).mono ?_;rintro e w22⟨rfl,ah7⟩
    (try unfold aW)
    go_wp2_with fail;exact⟨rfl,aZ.bad rfl ((H.o.low tT.o.mv).trans (ah7.mono (ak1 tT.o.ps.lt)))⟩
   have afP:=O LU;clear LU adp;have ajx:=cB Jl (by simp);have aed:=O Jl;clear Jl;go_wp2_with fail;refine (eP g tv l en iv hF [61] (.inr (by decide +kernel)) _ t _ _ tT.o.ps (by omega) aed.o).mono ?_;rintro e w22⟨rfl,p22,m22⟩;have Xk:=O (tT.o.ps.aY m22 C9.o);have Xl:=O (tT.o.ps.aY m22 Xj.o);clear C9 Xj;have OO:=O (tT.o.ps.iV m22 Yb.o (by decide) (by decide));clear Yb;have K:=O (tT.o.step p22 m22);clear tT;clear p22 m22;rcases dY afP.o with ⟨ZQ,k23,aiT,Zr,agw⟩ | ⟨akn,Zr,rfl⟩
   rotate_left
   ·have abF:=O Zr;clear Zr;go_wp2_with fail;refine (C m (ak0 _) .expr rfl _ (t+1) _ _ _ K.o.ps (by omega) (by rw [K.o.len];omega) (by rw [K.o.ns];exact KN.o) (by rw [K.o.ns];exact abF.o)).mono ?_;rintro e w23⟨rfl,Y4⟩
    (try unfold aW)
    go_wp2_with fail;exact⟨rfl,aZ.bad rfl ((H.o.low K.o.mv).trans Y4)⟩
   have abF:=O Zr;clear Zr;have ahp:=O agw;clear agw afP;go_wp2_with fail;refine (C m (ak0 _) .expr rfl _ (t+1) _ _ _ K.o.ps (by omega) (by rw [K.o.len];omega) (by rw [K.o.ns];exact KN.o) (by rw [K.o.ns];exact abF.o)).mono ?_;rintro e w23⟨rfl,ajq,akx,Ui⟩;have WZ:=O (dG abF.o (by omega) KN.o (Ids.nil _) (by simp));have ahX:=WZ.o.lo;have ajU:=WZ.o.few;have ajL:=WZ.o.le;have aj5:=WZ.o.len;simp only [Job.reads] at ahX
   have C_:=O (Ui.blk K.o.ps Xk.o (by decide) (by decide));have Xm:=O (Ui.blk K.o.ps Xl.o (by decide) (by decide));clear Xk Xl;have adi:=O (rD X0.o Ui.fresh (fun b c=>(OO.o.lt b c).2));clear X0;have zJ:=O (K.o.ps.iV Ui.mv OO.o (by decide) (by decide));clear OO;have ajh:=O WZ.o.wf;have CK:=O (K.o.trans Ui);clear K;clear Ui
   go_wp2_with (at_builtin
                refine wpList_append_lies _ rfl (.tmp 42) (.tmp 45) 30 rfl w.heap.size 3 i0 _ 1 8 Tryz.underlying30 Q R S T rfl (by decide) _ (0+1) (intCells ([] ++ [hd Y])) rfl
                  (zJ.o.alloc _) ⟨w23.heap.size,0,none⟩ 1 1 [.int .i64 (hd ZQ)] rfl rfl (iD _ _ _) (by intro u v;simp at v;subst v;rfl) (by omega) (by simp only [maxLen];omega) (by omega) (by have:=CK.o.mv.size;simp;omega) (w23.heap.size+1) (by simp) ?_
                intro ahP adA w24 Zc UE adI agk;have i:=fC C_.o zJ.o UE (by decide);have SL:=i.cell 0;have SN:=i.cell 1;have SQ:=i.cell 2;have ac5:=i.lt;have YJ:=fC Xm.o zJ.o UE (by decide);have abm:=YJ.cell 1;have afA:=YJ.lt)
   have aja:=O (oV CK.o.ps adi.o adI ((0+1)+1) adA);clear adI;have Da:=O (fC C_.o zJ.o UE (by decide));have Xn:=O (fC Xm.o zJ.o UE (by decide));have FW:=O ((CK.o.alloc (.cells #[.int .i64 (hd ZQ)] 3)).grown H.o zJ.o (by decide) UE adi.o);have afY:=O (show w24.ownsRow w.heap.size 3 1 (.slice (some ⟨ahP,0,none⟩) ((0+1)+1) adA) ((0+1)+1) (intCells (([] ++ [hd Y]) ++ [hd ZQ])) by rw [fU];exact Zc);clear Zc;have ahk:=O (show (([] ++ [hd Y]) ++ [hd ZQ]).length=(0+1)+1 by rw [ak5,HQ9.o];rfl);clear UE agk;obtain rfl:=dW ahp.o;have fA:=Da.o.cell 0;have fH:=Da.o.cell 1;have fI:=Da.o.cell 2;have sl0:=Da.o.lt;have pV:=Xn.o.cell 1;have sl1:=Xn.o.lt;refine (gI g tv l en iv aiT.length 42 _ _ _ (tx l (k+1)) 0 _ (([] ++ [hd Y]) ++ [hd ZQ]) _ k23 _ _ FW.o.ps (D9 ahk.o afY.o) FW.o.len (by omega)).mono ?_;rintro e w25⟨rfl,aky,p25,m25⟩;have qg:=O (FW.o.add p25 m25 (fun b c=>(afY.o.lt b c).1));clear p25 m25;go_wp2_with fail;go_ret;exact aZ.ok rfl qg.o
 ·skip;have NZ:=O Ah;clear Ah;have HR3:=O hr3;clear hr3;go_wp2_with fail;refine (uS [41] (.inr (by decide +kernel)) g tv l en iv _ (((k+1)+1)+1) _ _ (M.o.alloc _).ps (by omega) d hF.kind _ _ 9 (0,0) (heap_alloc_new _ _) false (by simp [NZ.o])).mono ?_;rintro e w26⟨rfl,acd⟩;have Xo:=O ((eH.o.alloc (.cells #[.string (aH [41])] 9)).below acd (eH.o.alloc (.cells #[.string (aH [41])] 9)).lt);have Xp:=O ((lq.o.alloc (.cells #[.string (aH [41])] 9)).below acd (lq.o.alloc (.cells #[.string (aH [41])] 9)).lt);clear eH lq;have L:=O ((M.o.alloc (.cells #[.string (aH [41])] 9)).below acd);clear M;clear acd;rcases dY HR3.o with ⟨W,U,aks,y,agy⟩ | ⟨ako,y,rfl⟩
  rotate_left
  ·have Yk:=O y;clear y;go_wp2_with fail;refine (CL m (ak0 _) .param _ (((k+1)+1)+1) _ _ _ L.o.ps (by omega) (by rw [L.o.len];omega) (by rw [L.o.ns];exact B.o) (by rw [L.o.ns];exact Yk.o)).mono ?_;rintro e w27⟨rfl,ah9⟩
   (try unfold aW)
   go_wp2_with fail;exact⟨rfl,aZ.bad rfl ((H.o.low L.o.mv).trans ah9)⟩
  have Yk:=O y;clear y;have ahr:=O agy;clear agy HR3;go_wp2_with fail;refine (CL m (ak0 _) .param _ (((k+1)+1)+1) _ _ _ L.o.ps (by omega) (by rw [L.o.len];omega) (by rw [L.o.ns];exact B.o) (by rw [L.o.ns];exact Yk.o)).mono ?_;rintro e w27⟨v27,agc,akz,rfl,ae4,ab9,hd27⟩;have abx:=O (jm (base':=w.heap.size) ae4 (fun b c=>Nat.le_trans L.o.mv.size (ae4.lt b c).1));clear ae4;have W_:=O (dG Yk.o (by omega) B.o (Ids.nil _) (by simp));have ahY:=W_.o.lo;have ajV:=W_.o.few;have ajM:=W_.o.le;have aj6:=W_.o.len;simp only [Job.reads] at ahY
  have Xq:=O (ab9.blk L.o.ps Xo.o (by decide) (by decide));have Xr:=O (ab9.blk L.o.ps Xp.o (by decide) (by decide));clear Xo Xp;have Yj:=O W_.o.wf;have IB:=O (L.o.trans ab9);clear L;clear ab9;have adj:=O (show ∀ x ∈ [] ++ agc,x.2.ownBlock=none∨x.2.ownBlock ≠ v27.ownBlock from hd27);clear hd27;have agv:=ZY (by omega) B.o Yk.o;obtain⟨D,ae5⟩:∃ q,q=W.length:=⟨_,rfl⟩;rw [← ae5] at abx agv
  have ahl:=O ae5.symm;clear ae5;obtain⟨A27,c27,rfl⟩:=d_ abx.o;have a:=ahr.o;unfold oJ at a;have adq:=O a;clear a
  rcases dP adq.o with ⟨Ur,agz⟩ | ⟨Ur,rfl⟩
  rotate_left
  ·have aef:=O Ur;clear Ur;go_wp2_with fail;refine (f_ g tv l en iv hF [41] (.inr (by decide +kernel)) _ U _ _ IB.o.ps (by omega) aef.o).mono ?_;rintro e w29⟨rfl,ah_⟩
   (try unfold aW)
   go_wp2_with fail;exact⟨rfl,aZ.bad rfl ((H.o.low IB.o.mv).trans (ah_.mono (ak1 IB.o.ps.lt)))⟩
  have afQ:=O agz;clear agz adq;have ajz:=cB Ur (by simp);have aef:=O Ur;clear Ur;go_wp2_with fail;refine (eP g tv l en iv hF [41] (.inr (by decide +kernel)) _ U _ _ IB.o.ps (by omega) aef.o).mono ?_;rintro e w29⟨rfl,p29,m29⟩;have Xt:=O (IB.o.ps.aY m29 Xq.o);have Xu:=O (IB.o.ps.aY m29 Xr.o);clear Xq Xr;have Yd:=O (IB.o.ps.iV m29 abx.o (by decide) (by decide));clear abx;have IE:=O (IB.o.step p29 m29);clear IB;clear p29 m29;rcases dP afQ.o with ⟨Us,agA⟩ | ⟨Us,rfl⟩
  rotate_left
  ·have aeg:=O Us;clear Us;go_wp2_with fail;refine (f_ g tv l en iv hF [58] (.inr (by decide +kernel)) _ (U+1) _ _ IE.o.ps (by omega) aeg.o).mono ?_;rintro e w30⟨rfl,ah'⟩
   (try unfold aW)
   go_wp2_with fail;exact⟨rfl,aZ.bad rfl ((H.o.low IE.o.mv).trans (ah'.mono (ak1 IE.o.ps.lt)))⟩
  have afR:=O agA;clear agA afQ;have ajA:=cB Us (by simp);have aeg:=O Us;clear Us;go_wp2_with fail;refine (eP g tv l en iv hF [58] (.inr (by decide +kernel)) _ (U+1) _ _ IE.o.ps (by omega) aeg.o).mono ?_;rintro e w30⟨rfl,p30,m30⟩;have Xv:=O (IE.o.ps.aY m30 Xt.o);have Xw:=O (IE.o.ps.aY m30 Xu.o);clear Xt Xu;have OQ:=O (IE.o.ps.iV m30 Yd.o (by decide) (by decide));clear Yd;have G:=O (IE.o.step p30 m30);clear IE;clear p30 m30;rcases dY afR.o with ⟨X,n,akt,A,agB⟩ | ⟨akp,A,rfl⟩
  rotate_left
  ·have abG:=O A;clear A;go_wp2_with fail;refine (C m (ak0 _) .typ rfl _ ((U+1)+1) _ _ _ G.o.ps (by omega) (by rw [G.o.len];omega) (by rw [G.o.ns];exact Yj.o) (by rw [G.o.ns];exact abG.o)).mono ?_;rintro e w31⟨rfl,aia⟩
   (try unfold aW)
   go_wp2_with fail;exact⟨rfl,aZ.bad rfl ((H.o.low G.o.mv).trans aia)⟩
  have abG:=O A;clear A;have ahs:=O agB;clear agB afR;go_wp2_with fail;refine (C m (ak0 _) .typ rfl _ ((U+1)+1) _ _ _ G.o.ps (by omega) (by rw [G.o.len];omega) (by rw [G.o.ns];exact Yj.o) (by rw [G.o.ns];exact abG.o)).mono ?_;rintro e w31⟨rfl,ajr,akA,Uj⟩;have Xa:=O (dG abG.o (by omega) Yj.o (Ids.nil _) (by simp));have ahZ:=Xa.o.lo;have ajW:=Xa.o.few;have ajN:=Xa.o.le;have aj7:=Xa.o.len;simp only [Job.reads] at ahZ
  have ad8:=O (Uj.blk G.o.ps Xv.o (by decide) (by decide));have ad9:=O (Uj.blk G.o.ps Xw.o (by decide) (by decide));clear Xv Xw;have adk:=O (rD adj.o Uj.fresh (fun b c=>(OQ.o.lt b c).2));clear adj;have I6:=O (G.o.ps.iV Uj.mv OQ.o (by decide) (by decide));clear OQ;have Gv:=O Xa.o.wf;have ad3:=O (G.o.trans Uj);clear G;clear Uj
  go_wp2_with (at_builtin
               refine wpList_append_lies _ rfl (.tmp 22) (.tmp 25) 30 rfl w.heap.size 3 i0 _ 1 8 Tryz.underlying30 Q R S T rfl (by decide) _ D (intCells W) rfl
                 (I6.o.alloc _) ⟨w31.heap.size,0,none⟩ 1 1 [.int .i64 (hd X)] rfl rfl (iD _ _ _) (by intro u v;simp at v;subst v;rfl) (by omega) (by simp only [maxLen];omega) (by omega) (by have:=ad3.o.mv.size;simp;omega) (w31.heap.size+1) (by simp) ?_
               intro ahQ adB w32 Zd ace adJ agl)
  have Rt:=O (oV ad3.o.ps adk.o adJ (D+1) adB);clear adJ;have Db:=O (fC ad8.o I6.o ace (by decide));have Dc:=O (fC ad9.o I6.o ace (by decide));have IG:=O ((ad3.o.alloc (.cells #[.int .i64 (hd X)] 3)).grown H.o I6.o (by decide) ace adk.o);have aby:=O (show w32.ownsRow w.heap.size 3 1 (.slice (some ⟨ahQ,0,none⟩) (D+1) adB) (D+1) (intCells (W ++ [hd X])) by rw [fU];exact Zd);clear Zd;have afN:=O (show (W ++ [hd X]).length=D+1 by rw [ak5,ahl.o];rfl);clear ace agl;rcases fT ahs.o with ⟨Ut,Zh⟩ | ⟨Ut,Zh⟩
  ·skip;have ajB:=cB Ut (by simp);have aeh:=O Ut;clear Ut;have aep:=O Zh;clear Zh;go_wp2_with fail;refine (jI g tv l en iv hF [117,112,116,111] (.inl (by decide +kernel)) _ n _ _ IG.o.ps (by omega) aeh.o).mono ?_;rintro e w34⟨rfl,p34,m34⟩;have Ot:=O (IG.o.ps.aY m34 Db.o);have Ou:=O (IG.o.ps.aY m34 Dc.o);clear Db Dc;have Ye:=O (IG.o.ps.iV m34 aby.o (by decide) (by decide));clear aby;have t_:=O (IG.o.step p34 m34);clear IG;clear p34 m34;go_wp2_with fail;refine (iQ g tv l en iv _ (n+1) _ _ t_.o.ps (by omega) d).mono ?_;rintro e Ta⟨rfl,Y5⟩;have Xy:=O (Ot.o.below Y5 Ot.o.lt);have Xz:=O (Ou.o.below Y5 Ou.o.lt);clear Ot Ou;have Yf:=O (own_below Ye.o Y5);clear Ye;have V:=O (t_.o.below Y5);clear t_;clear Y5;rcases fT aep.o with ⟨Uu,Zi⟩ | ⟨Uu,Zi⟩
   ·skip;have ajC:=cB Uu (by simp);have aei:=O Uu;clear Uu;have abw:=O Zi;clear Zi;have q0:(tx l (n+1) == [48])=true:=SX _ [48] aei.o;have tf1:=l6;obtain rfl:kX.bad (n+1)=r:=ak6 abw.o;go_wp2_with fail;refine (qw g tv l en iv _ (n+1) _ _ V.o.ps (by omega) d).mono ?_;rintro e wq⟨rfl,hbq⟩
    (try unfold aW)
    go_wp2_with fail;exact⟨rfl,aZ.bad rfl ((H.o.low V.o.mv).trans (hbq.mono (ak1 V.o.ps.lt)))⟩
   ·skip;have aei:=O Uu;clear Uu;have abw:=O Zi;clear Zi;have q0:(tx l (n+1) == [48])=false:=Iu _ [48] aei.o;have tf1:=l6;go_wp2_with fail;clear q0;rcases fO abw.o with ⟨Uv,agC⟩ | ⟨Uv,rfl⟩
    rotate_left
    ·have aej:=O Uv;clear Uv;refine (sw g tv l en iv hF _ (n+1) _ _ V.o.ps (by omega) aej.o).mono ?_;rintro e w37⟨rfl,aib⟩
     (try unfold aW)
     go_wp2_with fail;exact⟨rfl,aZ.bad rfl ((H.o.low V.o.mv).trans (aib.mono (ak1 V.o.ps.lt)))⟩
    have aht:=O agC;clear agC abw;have ajD:=h_ Uv (by simp);have aej:=O Uv;clear Uv;refine (oD g tv l en iv hF _ (n+1) _ _ V.o.ps (by omega) aej.o).mono ?_;rintro e w37⟨rfl,p37,m37⟩;have XA:=O (V.o.ps.aY m37 Xy.o);have XB:=O (V.o.ps.aY m37 Xz.o);clear Xy Xz;have Yg:=O (V.o.ps.iV m37 Yf.o (by decide) (by decide));clear Yf;have II:=O (V.o.step p37 m37);clear V;clear p37 m37;unfold iW;have a:=aht.o;unfold mQ at a;have adr:=O a;clear a
    rcases dP adr.o with ⟨Uw,agD⟩ | ⟨Uw,rfl⟩
    rotate_left
    ·have aek:=O Uw;clear Uw;go_wp2_with fail;refine (f_ g tv l en iv hF [61] (.inr (by decide +kernel)) _ ((n+1)+1) _ _ II.o.ps (by omega) aek.o).mono ?_;rintro e w39⟨rfl,aic⟩
     (try unfold aW)
     go_wp2_with fail;exact⟨rfl,aZ.bad rfl ((H.o.low II.o.mv).trans (aic.mono (ak1 II.o.ps.lt)))⟩
    have afS:=O agD;clear agD adr;have ajE:=cB Uw (by simp);have aek:=O Uw;clear Uw;go_wp2_with fail;refine (eP g tv l en iv hF [61] (.inr (by decide +kernel)) _ ((n+1)+1) _ _ II.o.ps (by omega) aek.o).mono ?_;rintro e w39⟨rfl,p39,m39⟩;have XD:=O (II.o.ps.aY m39 XA.o);have XE:=O (II.o.ps.aY m39 XB.o);clear XA XB;have OU:=O (II.o.ps.iV m39 Yg.o (by decide) (by decide));clear Yg;have I:=O (II.o.step p39 m39);clear II;clear p39 m39;rcases dY afS.o with ⟨ZR,k40,aiU,Zt,agE⟩ | ⟨akq,Zt,rfl⟩
    rotate_left
    ·have abH:=O Zt;clear Zt;go_wp2_with fail;refine (C m (ak0 _) .expr rfl _ (((n+1)+1)+1) _ _ _ I.o.ps (by omega) (by rw [I.o.len];omega) (by rw [I.o.ns];exact Gv.o) (by rw [I.o.ns];exact abH.o)).mono ?_;rintro e w40⟨rfl,aie⟩
     (try unfold aW)
     go_wp2_with fail;exact⟨rfl,aZ.bad rfl ((H.o.low I.o.mv).trans aie)⟩
    have abH:=O Zt;clear Zt;have ahu:=O agE;clear agE afS;go_wp2_with fail;refine (C m (ak0 _) .expr rfl _ (((n+1)+1)+1) _ _ _ I.o.ps (by omega) (by rw [I.o.len];omega) (by rw [I.o.ns];exact Gv.o) (by rw [I.o.ns];exact abH.o)).mono ?_;rintro e w40⟨rfl,ajs,akC,Uk⟩;have Xb:=O (dG abH.o (by omega) Gv.o (Ids.nil _) (by simp));have ah0:=Xb.o.lo;have ajX:=Xb.o.few;have ajO:=Xb.o.le;have aj8:=Xb.o.len;simp only [Job.reads] at ah0
    have XF:=O (Uk.blk I.o.ps XD.o (by decide) (by decide));have XG:=O (Uk.blk I.o.ps XE.o (by decide) (by decide));clear XD XE;have adl:=O (rD Rt.o Uk.fresh (fun b c=>(OU.o.lt b c).2));clear Rt;have zK:=O (I.o.ps.iV Uk.mv OU.o (by decide) (by decide));clear OU;have aji:=O Xb.o.wf;have ad4:=O (I.o.trans Uk);clear I;clear Uk
    go_wp2_with (at_builtin
                 refine wpList_append_lies _ rfl (.tmp 42) (.tmp 45) 30 rfl w.heap.size 3 i0 _ 1 8 Tryz.underlying30 Q R S T rfl (by decide) _ (D+1) (intCells (W ++ [hd X])) rfl
                   (zK.o.alloc _) ⟨w40.heap.size,0,none⟩ 1 1 [.int .i64 (hd ZR)] rfl rfl (iD _ _ _) (by intro u v;simp at v;subst v;rfl) (by omega) (by simp only [maxLen];omega) (by omega) (by have:=ad4.o.mv.size;simp;omega) (w40.heap.size+1) (by simp) ?_
                 intro ahR adC w41 Ze UF adK agm;have i:=fC XF.o zK.o UF (by decide);have SL:=i.cell 0;have SN:=i.cell 1;have SQ:=i.cell 2;have ac5:=i.lt;have YJ:=fC XG.o zK.o UF (by decide);have abm:=YJ.cell 1;have afA:=YJ.lt)
    have ajb:=O (oV ad4.o.ps adl.o adK ((D+1)+1) adC);clear adK;have IQ:=O (fC XF.o zK.o UF (by decide));have XH:=O (fC XG.o zK.o UF (by decide));have ad5:=O ((ad4.o.alloc (.cells #[.int .i64 (hd ZR)] 3)).grown H.o zK.o (by decide) UF adl.o);have afZ:=O (show w41.ownsRow w.heap.size 3 1 (.slice (some ⟨ahR,0,none⟩) ((D+1)+1) adC) ((D+1)+1) (intCells ((W ++ [hd X]) ++ [hd ZR])) by rw [fU];exact Ze);clear Ze;have ahm:=O (show ((W ++ [hd X]) ++ [hd ZR]).length=(D+1)+1 by rw [ak5,afN.o];rfl);clear UF agm;obtain rfl:=dW ahu.o;have fA:=IQ.o.cell 0;have fH:=IQ.o.cell 1;have fI:=IQ.o.cell 2;have sl0:=IQ.o.lt;have pV:=XH.o.cell 1;have sl1:=XH.o.lt;refine (gI g tv l en iv aiU.length 42 _ _ _ (tx l (k+1)) ((numOf (tx l (n+1)):Nat):Int) _ ((W ++ [hd X]) ++ [hd ZR]) _ k40 _ _ ad5.o.ps (D9 ahm.o afZ.o) ad5.o.len (by omega)).mono ?_;rintro e w42⟨rfl,akD,p42,m42⟩;have qg:=O (ad5.o.add p42 m42 (fun b c=>(afZ.o.lt b c).1));clear p42 m42;go_wp2_with fail;go_ret;exact aZ.ok rfl qg.o
  ·skip;have aeh:=O Ut;clear Ut;have aep:=O Zh;clear Zh;go_wp2_with fail;refine (kY g tv l en iv hF [117,112,116,111] (.inl (by decide +kernel)) _ n _ _ IG.o.ps (by omega) aeh.o).mono ?_;rintro e w43⟨rfl,Y6⟩;have XI:=O (Db.o.below Y6 Db.o.lt);have XJ:=O (Dc.o.below Y6 Dc.o.lt);clear Db Dc;have Yh:=O (own_below aby.o Y6);clear aby;have IJ:=O (IG.o.below Y6);clear IG;clear Y6;have a:=aep.o;unfold mQ at a;have ads:=O a;clear a
   rcases dP ads.o with ⟨Uy,agF⟩ | ⟨Uy,rfl⟩
   rotate_left
   ·have ael:=O Uy;clear Uy;go_wp2_with fail;refine (f_ g tv l en iv hF [61] (.inr (by decide +kernel)) _ n _ _ IJ.o.ps (by omega) ael.o).mono ?_;rintro e w45⟨rfl,aif⟩
    (try unfold aW)
    go_wp2_with fail;exact⟨rfl,aZ.bad rfl ((H.o.low IJ.o.mv).trans (aif.mono (ak1 IJ.o.ps.lt)))⟩
   have afT:=O agF;clear agF ads;have ajF:=cB Uy (by simp);have ael:=O Uy;clear Uy;go_wp2_with fail;refine (eP g tv l en iv hF [61] (.inr (by decide +kernel)) _ n _ _ IJ.o.ps (by omega) ael.o).mono ?_;rintro e w45⟨rfl,p45,m45⟩;have XK:=O (IJ.o.ps.aY m45 XI.o);have XL:=O (IJ.o.ps.aY m45 XJ.o);clear XI XJ;have OV:=O (IJ.o.ps.iV m45 Yh.o (by decide) (by decide));clear Yh;have J:=O (IJ.o.step p45 m45);clear IJ;clear p45 m45;rcases dY afT.o with ⟨ZT,k46,aiV,Zu,agG⟩ | ⟨akr,Zu,rfl⟩
   rotate_left
   ·have abI:=O Zu;clear Zu;go_wp2_with fail;refine (C m (ak0 _) .expr rfl _ (n+1) _ _ _ J.o.ps (by omega) (by rw [J.o.len];omega) (by rw [J.o.ns];exact Gv.o) (by rw [J.o.ns];exact abI.o)).mono ?_;rintro e w46⟨rfl,aii⟩
    (try unfold aW)
    go_wp2_with fail;exact⟨rfl,aZ.bad rfl ((H.o.low J.o.mv).trans aii)⟩
   have abI:=O Zu;clear Zu;have ahv:=O agG;clear agG afT;go_wp2_with fail;refine (C m (ak0 _) .expr rfl _ (n+1) _ _ _ J.o.ps (by omega) (by rw [J.o.len];omega) (by rw [J.o.ns];exact Gv.o) (by rw [J.o.ns];exact abI.o)).mono ?_;rintro e w46⟨rfl,ajt,akE,Ul⟩;have Xc:=O (dG abI.o (by omega) Gv.o (Ids.nil _) (by simp));have ah1:=Xc.o.lo;have ajY:=Xc.o.few;have ajP:=Xc.o.le;have aj9:=Xc.o.len;simp only [Job.reads] at ah1
   have XM:=O (Ul.blk J.o.ps XK.o (by decide) (by decide));have XO:=O (Ul.blk J.o.ps XL.o (by decide) (by decide));clear XK XL;have adn:=O (rD Rt.o Ul.fresh (fun b c=>(OV.o.lt b c).2));clear Rt;have zL:=O (J.o.ps.iV Ul.mv OV.o (by decide) (by decide));clear OV;have ajj:=O Xc.o.wf;have ad6:=O (J.o.trans Ul);clear J;clear Ul
   go_wp2_with (at_builtin
                refine wpList_append_lies _ rfl (.tmp 42) (.tmp 45) 30 rfl w.heap.size 3 i0 _ 1 8 Tryz.underlying30 Q R S T rfl (by decide) _ (D+1) (intCells (W ++ [hd X])) rfl
                  (zL.o.alloc _) ⟨w46.heap.size,0,none⟩ 1 1 [.int .i64 (hd ZT)] rfl rfl (iD _ _ _) (by intro u v;simp at v;subst v;rfl) (by omega) (by simp only [maxLen];omega) (by omega) (by have:=ad6.o.mv.size;simp;omega) (w46.heap.size+1) (by simp) ?_
                intro ahS adD w47 Zf UG adL agn;have i:=fC XM.o zL.o UG (by decide);have SL:=i.cell 0;have SN:=i.cell 1;have SQ:=i.cell 2;have ac5:=i.lt;have YJ:=fC XO.o zL.o UG (by decide);have abm:=YJ.cell 1;have afA:=YJ.lt)
   have ajc:=O (oV ad6.o.ps adn.o adL ((D+1)+1) adD);clear adL;have IU:=O (fC XM.o zL.o UG (by decide));have XP:=O (fC XO.o zL.o UG (by decide));have ad7:=O ((ad6.o.alloc (.cells #[.int .i64 (hd ZT)] 3)).grown H.o zL.o (by decide) UG adn.o);have af0:=O (show w47.ownsRow w.heap.size 3 1 (.slice (some ⟨ahS,0,none⟩) ((D+1)+1) adD) ((D+1)+1) (intCells ((W ++ [hd X]) ++ [hd ZT])) by rw [fU];exact Zf);clear Zf;have ahn:=O (show ((W ++ [hd X]) ++ [hd ZT]).length=(D+1)+1 by rw [ak5,afN.o];rfl);clear UG agn;obtain rfl:=dW ahv.o;have fA:=IU.o.cell 0;have fH:=IU.o.cell 1;have fI:=IU.o.cell 2;have sl0:=IU.o.lt;have pV:=XP.o.cell 1;have sl1:=XP.o.lt;refine (gI g tv l en iv aiV.length 42 _ _ _ (tx l (k+1)) 0 _ ((W ++ [hd X]) ++ [hd ZT]) _ k46 _ _ ad7.o.ps (D9 ahn.o af0.o) ad7.o.len (by omega)).mono ?_;rintro e w48⟨rfl,akF,p48,m48⟩;have qg:=O (ad7.o.add p48 m48 (fun b c=>(af0.o.lt b c).1));clear p48 m48;go_wp2_with fail;go_ret;exact aZ.ok rfl qg.o
end
