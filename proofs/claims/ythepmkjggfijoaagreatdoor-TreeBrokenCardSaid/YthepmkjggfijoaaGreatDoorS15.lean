/-
  A part of the proof.
-/
import Derived.Test.YthepmkjggfijoaaGreatDoorSA
import Derived.Test.YthepmkjggfijoaaGreatDoorS08
import Derived.Test.YthepmkjggfijoaaGreatDoorS11
import Derived.Test.YthepmkjggfijoaaGreatDoorS12
import Derived.Test.YthepmkjggfijoaaGreatDoorS13
import Derived.Test.YthepmkjggfijoaaGreatDoorS14
set_option linter.all false
set_option maxRecDepth 100000
set_option maxHeartbeats 4000000
namespace Go.Proofs.YthepmkjggfijoaaGreatDoor
open Go.RowKit Mist
attribute [local go_sem] aj aH aS aB ak
section
variable {g:Nat} {tv:Value} {l:List Tok} {en:Int} {iv:Value} (hF:PF l)
include hF
theorem Wh (m:Nat)(C:∀ f,f≤m→∀ j,isFn j=true→IC g tv l en iv f j)(CL:∀ f,f≤m→∀ e,LC g tv l en iv f e):IC g tv l en iv (m+1) .atom:=by
 intro w k xs nv r h hk hn hw hr;have H:=O h;clear h;have uD:=O (At.refl H.o);have a:=O hw;clear hw;have hn0:(aA xs).length≤k:=by rw [aD];exact hn
 have hlen:=hF.len;rw [run] at hr
 unfold t_;go_enter Tryz.func258,Tryz.ntmps258
 have qm:=O hr;clear hr;go_wp2_with fail;refine (h_ g tv l en iv _ k _ _ uD.o.ps (by omega) hlen).mono ?_;rintro e w1⟨rfl,hb1⟩;have HA1:=O (uD.o.below hb1);skip;clear hb1;have B:=O (aC.new w1 68 #[.int .u8 (tg l k).kind,.string (aM (tx l k)),.int .i64 (pl l en k)]);have v:=O (HA1.o.alloc (.cells #[.int .u8 (tg l k).kind,.string (aM (tx l k)),.int .i64 (pl l en k)] 68));clear HA1;rcases gG qm.o with ⟨c,A⟩ | ⟨c,A⟩
 ·skip;have hlt2:=fA c (by simp);have b2:(((tg l k).kind:Int) == 2)=true:=by rw [c];rfl
  have HE2:=O c;clear c;have N:=O A;clear A;have fH:=B.o.cell 0;have D:=B.o.lt;go_wp2_with fail;clear b2;refine (pY g tv l en iv hF _ k _ _ v.o.ps (by omega) HE2.o).mono ?_;rintro e w3⟨rfl,p3,m3⟩;have iG:=O (v.o.ps.aU m3 B.o);clear B;have gM:=O (v.o.step p3 m3);clear v;clear p3 m3;unfold jl;have Bd:=O (iG.o.alloc (.cells #[.int .u8 (tg l k).kind,.string (aM (tx l k)),.int .i64 (pl l en k)] 68));clear iG;have HN3:=O (aC.new w3 68 #[.int .u8 (tg l k).kind,.string (aM (tx l k)),.int .i64 (pl l en k)]);have Qw:=O (gM.o.alloc (.cells #[.int .u8 (tg l k).kind,.string (aM (tx l k)),.int .i64 (pl l en k)] 68));clear gM;obtain rfl:=dV N.o;have fH:=Bd.o.cell 0;have fQ:=Bd.o.cell 1;have fT:=Bd.o.cell 2;have D:=Bd.o.lt;go_wp2_with fail;refine (gB g tv l en iv (aA xs).length 1 _ _ _ [] ((numOf (tx l k):Nat):Int) _ [] _ (k+1) _ _ Qw.o.ps (cB.none_ _) Qw.o.len (by omega)).mono ?_;rintro e w4⟨rfl,yH,p4,m4⟩;have Z:=O (Qw.o.add p4 m4 (by intro b E;simp [Value.ownBlock] at E));clear p4 m4;go_wp2_with fail;go_ret;exact aR.ok rfl Z.o
 ·skip;have b2:(((tg l k).kind:Int) == 2)=false:=by simp;omega
  have HE2:=O c;clear c;have N:=O A;clear A;have fH:=B.o.cell 0;have D:=B.o.lt;go_wp2_with fail;clear b2;rcases gG N.o with ⟨zw,Mj⟩ | ⟨zw,Mj⟩
  ·skip;have hlt5:=aP zw (by simp);have Ns:=O zw;clear zw;have AU:=O Mj;clear Mj;go_wp2_with fail;refine (jg g tv l en iv hF [116,114,117,101] (.inl (by decide +kernel)) _ k _ _ v.o.ps (by omega) Ns.o).mono ?_;rintro e w6⟨rfl,p6,m6⟩;have n_:=O (v.o.ps.aU m6 B.o);clear B;have ow:=O (v.o.step p6 m6);clear v;clear p6 m6;obtain rfl:=dV AU.o;have fH:=n_.o.cell 0;have fQ:=n_.o.cell 1;have fT:=n_.o.cell 2;have D:=n_.o.lt;go_wp2_with fail;refine (gB g tv l en iv (aA xs).length 2 _ _ _ [] 1 _ [] _ (k+1) _ _ ow.o.ps (cB.none_ _) ow.o.len (by omega)).mono ?_;rintro e w7⟨rfl,nv7,p7,m7⟩;have Z:=O (ow.o.add p7 m7 (by intro b E;simp [Value.ownBlock] at E));clear p7 m7;go_wp2_with fail;go_ret;exact aR.ok rfl Z.o
  ·skip;have Ns:=O zw;clear zw;have AU:=O Mj;clear Mj;go_wp2_with fail;refine (kN g tv l en iv hF [116,114,117,101] (.inl (by decide +kernel)) _ k _ _ v.o.ps (by omega) Ns.o).mono ?_;rintro e w8⟨rfl,tZ⟩;have uO:=O (B.o.below tZ B.o.lt);clear B;have zL:=O (v.o.below tZ);clear v;clear tZ;rcases gG AU.o with ⟨VJ,Qs⟩ | ⟨VJ,Qs⟩
   ·skip;have hlt9:=aP VJ (by simp);have M:=O VJ;clear VJ;have P:=O Qs;clear Qs;go_wp2_with fail;refine (jg g tv l en iv hF [102,97,108,115,101] (.inl (by decide +kernel)) _ k _ _ zL.o.ps (by omega) M.o).mono ?_;rintro e Qv⟨rfl,p10,R⟩;have o_:=O (zL.o.ps.aU R uO.o);clear uO;have vO:=O (zL.o.step p10 R);clear zL;clear p10 R;obtain rfl:=dV P.o;have fH:=o_.o.cell 0;have fQ:=o_.o.cell 1;have fT:=o_.o.cell 2;have D:=o_.o.lt;go_wp2_with fail;refine (gB g tv l en iv (aA xs).length 2 _ _ _ [] 0 _ [] _ (k+1) _ _ vO.o.ps (cB.none_ _) vO.o.len (by omega)).mono ?_;rintro e Et⟨rfl,nv11,p11,m11⟩;have Z:=O (vO.o.add p11 m11 (by intro b E;simp [Value.ownBlock] at E));clear p11 m11;go_wp2_with fail;go_ret;exact aR.ok rfl Z.o
   ·skip;have M:=O VJ;clear VJ;have P:=O Qs;clear Qs;go_wp2_with fail;refine (kN g tv l en iv hF [102,97,108,115,101] (.inl (by decide +kernel)) _ k _ _ zL.o.ps (by omega) M.o).mono ?_;rintro e wQ⟨rfl,G6⟩;have oD:=O (uO.o.below G6 uO.o.lt);clear uO;have W:=O (zL.o.below G6);clear zL;clear G6;rcases gG P.o with ⟨pV,yh⟩ | ⟨pV,yh⟩
    ·skip;have ZG:=aP pV (by simp);have zM:=O pV;clear pV;have zN:=O yh;clear yh;go_wp2_with fail;refine (jg g tv l en iv hF [40] (.inr (by decide +kernel)) _ k _ _ W.o.ps (by omega) zM.o).mono ?_;rintro e Tx⟨rfl,p14,S⟩;have oF:=O (W.o.ps.aU S oD.o);clear oD;have n:=O (W.o.step p14 S);clear W;clear p14 S;rcases dW zN.o with ⟨ks15,k15,ns15,G_,G9⟩ | ⟨kb15,G_,rfl⟩
     rotate_left
     ·have LG:=O G_;clear G_;go_wp2_with fail;refine (C m (aaJ _) .expr rfl _ (k+1) _ _ _ n.o.ps (by omega) (by rw [n.o.len];omega) (by rw [n.o.ns];exact a.o) (by rw [n.o.ns];exact LG.o)).mono ?_;rintro e JM⟨rfl,RV⟩;unfold aI;go_wp2_with fail;exact⟨rfl,aR.bad rfl ((H.o.low n.o.mv).trans RV)⟩
     have LG:=O G_;clear G_;have Ls:=O G9;clear G9 zN;go_wp2_with fail;refine (C m (aaJ _) .expr rfl _ (k+1) _ _ _ n.o.ps (by omega) (by rw [n.o.len];omega) (by rw [n.o.ns];exact a.o) (by rw [n.o.ns];exact LG.o)).mono ?_;rintro e JM⟨rfl,ext15,aav,Oj⟩;have FR:=O (aW LG.o (by omega) a.o (Ids.nil _) (by simp));have gl15:=FR.o.lo;have gf15:=FR.o.few;have ge15:=FR.o.le;have gn15:=FR.o.len;simp only [Job.reads] at gl15
     have nU:=O (Oj.blk n.o.ps oF.o (by decide) (by decide));clear oF;have TT:=O FR.o.wf;have Y:=O (n.o.trans Oj);clear n;clear Oj;rcases dO Ls.o with ⟨uZ,Ou⟩ | ⟨uZ,rfl⟩
     rotate_left
     ·have F5:=O uZ;clear uZ;go_wp2_with fail;refine (gQ g tv l en iv hF [41] (.inr (by decide +kernel)) _ k15 _ _ Y.o.ps (by omega) F5.o).mono ?_;rintro e w16⟨rfl,Zz⟩;unfold aI;go_wp2_with fail;exact⟨rfl,aR.bad rfl ((H.o.low Y.o.mv).trans (Zz.mono (aaK Y.o.ps.lt)))⟩
     have Q0:=O Ou;clear Ou Ls;have hlt16:=aP uZ (by simp);have F5:=O uZ;clear uZ;go_wp2_with fail;refine (eZ g tv l en iv hF [41] (.inr (by decide +kernel)) _ k15 _ _ Y.o.ps (by omega) F5.o).mono ?_;rintro e w16⟨rfl,p16,T⟩;have pq:=O (Y.o.ps.aU T nU.o);clear nU;have oC:=O (Y.o.step p16 T);clear Y;clear p16 T;obtain rfl:=(aaP Q0.o).symm;go_wp2_with fail;go_ret;exact aR.ok rfl oC.o
    ·skip;have zM:=O pV;clear pV;have zN:=O yh;clear yh;go_wp2_with fail;refine (kN g tv l en iv hF [40] (.inr (by decide +kernel)) _ k _ _ W.o.ps (by omega) zM.o).mono ?_;rintro e w17⟨rfl,zW⟩;have jQ:=O (oD.o.below zW oD.o.lt);clear oD;have X:=O (W.o.below zW);clear W;clear zW;rcases gG zN.o with ⟨D8,Ov⟩ | ⟨D8,Ov⟩
     ·skip;have hlt18:=aP D8 (by simp);have QO:=O D8;clear D8;have Q7:=O Ov;clear Ov;go_wp2_with fail;refine (jg g tv l en iv hF [91] (.inr (by decide +kernel)) _ k _ _ X.o.ps (by omega) QO.o).mono ?_;rintro e w19⟨rfl,p19,U⟩;have QE:=O (X.o.ps.aU U jQ.o);clear jQ;have i:=O (X.o.step p19 U);clear X;clear p19 U;rcases dW Q7.o with ⟨ks20,Q,ns20,ZW,RY⟩ | ⟨kb20,ZW,rfl⟩
      rotate_left
      ·have d:=O ZW;clear ZW;go_wp2_with fail;refine (CL m (aaJ _) .expr _ (k+1) _ _ _ i.o.ps (by omega) (by rw [i.o.len];omega) (by rw [i.o.ns];exact a.o) (by rw [i.o.ns];exact d.o)).mono ?_;rintro e w20⟨rfl,RX⟩;unfold aI;go_wp2_with fail;exact⟨rfl,aR.bad rfl ((H.o.low i.o.mv).trans RX)⟩
      have d:=O ZW;clear ZW;have G:=O RY;clear RY Q7;go_wp2_with fail;refine (CL m (aaJ _) .expr _ (k+1) _ _ _ i.o.ps (by omega) (by rw [i.o.len];omega) (by rw [i.o.ns];exact a.o) (by rw [i.o.ns];exact d.o)).mono ?_;rintro e w20⟨v20,ext20,nv20,rfl,y,x,hd20⟩;have I:=O (kI (base':=w.heap.size) y (fun b E=>Nat.le_trans i.o.mv.size (y.lt b E).1));clear y hd20;have XI:=O (aW d.o (by omega) a.o (Ids.nil _) (by simp));have gl20:=XI.o.lo;have gf20:=XI.o.few;have ge20:=XI.o.le;have gn20:=XI.o.len;simp only [Job.reads] at gl20
      have FV:=O (x.blk i.o.ps QE.o (by decide) (by decide));clear QE;have HWF20:=O XI.o.wf;have K:=O (i.o.trans x);clear i;clear x;rcases dO G.o with ⟨Mg,Ow⟩ | ⟨Mg,rfl⟩
      rotate_left
      ·have t:=O Mg;clear Mg;go_wp2_with fail;refine (gQ g tv l en iv hF [93] (.inr (by decide +kernel)) _ Q _ _ K.o.ps (by omega) t.o).mono ?_;rintro e w21⟨rfl,hb21⟩;unfold aI;go_wp2_with fail;exact⟨rfl,aR.bad rfl ((H.o.low K.o.mv).trans (hb21.mono (aaK K.o.ps.lt)))⟩
      have HR21:=O Ow;clear Ow G;have hlt21:=aP Mg (by simp);have t:=O Mg;clear Mg;go_wp2_with fail;refine (eZ g tv l en iv hF [93] (.inr (by decide +kernel)) _ Q _ _ K.o.ps (by omega) t.o).mono ?_;rintro e w21⟨rfl,p21,F⟩;have La:=O (K.o.ps.aU F FV.o);clear FV;have YN:=O (K.o.ps.iI F I.o (by decide) (by decide));clear I;have q:=O (K.o.step p21 F);clear K;clear p21 F;obtain rfl:=dV HR21.o;have fH:=La.o.cell 0;have fQ:=La.o.cell 1;have fT:=La.o.cell 2;have D:=La.o.lt;go_wp2_with fail;refine (gB g tv l en iv ns20.length 26 _ _ _ [] 0 _ ks20 _ (Q+1) _ _ q.o.ps (kI YN.o (fun _ _=>aaL _)) q.o.len (by omega)).mono ?_;rintro e w22⟨rfl,nv22,p22,m22⟩;have Z:=O (q.o.add p22 m22 (fun b E=>(YN.o.lt b E).1));clear p22 m22;go_wp2_with fail;go_ret;exact aR.ok rfl Z.o
     ·skip;have QO:=O D8;clear D8;have Q7:=O Ov;clear Ov;go_wp2_with fail;refine (kN g tv l en iv hF [91] (.inr (by decide +kernel)) _ k _ _ X.o.ps (by omega) QO.o).mono ?_;rintro e w23⟨rfl,ZA⟩;have FW:=O (jQ.o.below ZA jQ.o.lt);clear jQ;have L:=O (X.o.below ZA);clear X;clear ZA;rcases gH Q7.o with ⟨Vz,J⟩ | ⟨Vz,rfl⟩
      rotate_left
      ·have u:=O Vz;clear Vz;go_wp2_with fail;refine (mX g tv l en iv hF _ k _ _ L.o.ps (by omega) u.o).mono ?_;rintro e w24⟨rfl,hb24⟩;unfold aI;go_wp2_with fail;exact⟨rfl,aR.bad rfl ((H.o.low L.o.mv).trans (hb24.mono (aaK L.o.ps.lt)))⟩
      have HR24:=O J;clear J Q7;have hlt24:=fA Vz (by simp);have u:=O Vz;clear Vz;go_wp2_with fail;refine (lC g tv l en iv hF _ k _ _ L.o.ps (by omega) u.o).mono ?_;rintro e w24⟨rfl,p24,V⟩;have FX:=O (L.o.ps.aU V FW.o);clear FW;have Jo:=O (L.o.step p24 V);clear L;clear p24 V;unfold jl;have HQ:=O (V7 hF m CL _ k _ _ r Jo.o.ps (by omega) (by rw [Jo.o.len];omega) (by rw [Jo.o.ns];exact a.o) (by rw [Jo.o.ns];exact HR24.o));go_wp2_with fail
      cases r with
      | bad kb =>
       refine HQ.o.mono ?_;rintro e wq⟨rfl,hbq⟩;unfold aI;go_wp2_with fail;exact⟨rfl,aR.bad rfl ((H.o.low Jo.o.mv).trans hbq)⟩
      | ok ksq kq nsq =>
       refine HQ.o.mono ?_;rintro e wq⟨rfl,extq,nvq,haq⟩;have HAQ:=O (Jo.o.trans haq);clear haq;go_wp2_with fail;go_ret;exact aR.ok rfl HAQ.o
end
section
variable {g:Nat} {tv:Value} {l:List Tok} {en:Int} {iv:Value} (hF:PF l)
include hF
theorem Wj (m:Nat)(C:∀ f,f≤m→∀ j,isFn j=true→IC g tv l en iv f j)(CL:∀ f,f≤m→∀ e,LC g tv l en iv f e):IC g tv l en iv (m+1) .post:=by
 intro w k xs nv r h hk hn hw hr;have H:=O h;clear h;have J:=O (At.refl H.o);have X:=O hw;clear hw;have hn0:(aA xs).length≤k:=by rw [aD];exact hn
 have hlen:=hF.len;rw [run] at hr
 unfold t_;go_enter Tryz.func257,Tryz.ntmps257
 have qm:=O hr;clear hr;rcases dW qm.o with ⟨N,k1,aJ,I,hr1⟩ | ⟨kb1,I,rfl⟩
 rotate_left
 ·have Xu:=O I;clear I;go_wp2_with fail;refine (C m (aaJ _) .atom rfl _ k _ _ _ J.o.ps (by omega) (by rw [J.o.len];omega) (by rw [J.o.ns];exact X.o) (by rw [J.o.ns];exact Xu.o)).mono ?_;rintro e w1⟨rfl,hb1⟩;unfold aI;go_wp2_with fail;exact⟨rfl,aR.bad rfl ((H.o.low J.o.mv).trans hb1)⟩
 have Xu:=O I;clear I;have HR1:=O hr1;clear hr1 qm;go_wp2_with fail;refine (C m (aaJ _) .atom rfl _ k _ _ _ J.o.ps (by omega) (by rw [J.o.len];omega) (by rw [J.o.ns];exact X.o) (by rw [J.o.ns];exact Xu.o)).mono ?_;rintro e w1⟨rfl,ext1,gW,ha1⟩;have t:=O (aW Xu.o (by omega) X.o (Ids.nil _) (by simp));have gl1:=t.o.lo;have gf1:=t.o.few;have ge1:=t.o.le;have gn1:=t.o.len;simp only [Job.reads] at gl1
 have R:=O t.o.wf;have u:=O (J.o.trans ha1);skip;clear ha1;have W:=O (show run l en m (.iq (hd N)) k1 (aA (xs ++ ([] ++ ext1)))=some r by rw [u.o.ns];exact HR1.o);have HWL:=O (show Wf (aA (xs ++ ([] ++ ext1))) by rw [u.o.ns];exact R.o);have qP:=O (show 0≤hd N∧hd N < ((xs ++ ([] ++ ext1)).length:Int) by rw [u.o.len];exact t.o.hd);have JR:=O (show At g tv l en iv w xs nv k1 (aA (xs ++ ([] ++ ext1))) w1 ([] ++ ext1) gW by rw [u.o.ns];exact u.o);have hcn:(xs ++ ([] ++ ext1)).length≤k1:=by rw [u.o.len];omega
 obtain⟨d,EF⟩:∃ d,d=hd N:=⟨_,rfl⟩;rw [← EF] at W qP ⊢
 clear EF;go_wp2_with fail;go_loopw [3] (fun a wr=>∃ (f c:Nat) (ext:List NV) (eO:Value) (d:Int),a=.int .i64 d∧f≤m∧c≤l.length∧(xs ++ ext).length≤c∧Hid (run l en f (.iq d) c (aA (xs ++ ext))=some r)∧Hid (Wf (aA (xs ++ ext)))∧Hid (0≤d∧d < ((xs ++ ext).length:Int))∧Hid (At g tv l en iv w xs nv c (aA (xs ++ ext)) wr ext eO)) (fun _ wr=>nG g l.length wr)
 case atStart=>exact⟨m,k1,[] ++ ext1,gW,d,rfl,aaJ _,ge1,hcn,W,HWL,qP,JR⟩
 case round =>
  clear W HWL qP JR hcn u HR1 Xu t gl1 gf1 ge1 gn1 R;obtain⟨f,c,ext,eO,d,rfl,hfm,hk',hn',nH,nA,qP,HA⟩:=hrel
  obtain⟨f,rfl⟩:∃ f0,f=f0+1:=⟨f - 1,by
   rcases Nat.eq_zero_or_pos f with h | h
   ·subst h;have:=nH.o;rw [run] at this;cases this
   ·omega⟩
  have Lp:=O (HA.o.ps.nG (n:=l.length));have hnl:(aA (xs ++ ext)).length≤c:=by rw [aD];exact hn'
  have hr:=nH.o;rw [run] at hr;have qm:=O hr;clear hr nH
  have Q:=O (show 0≤d∧d < ((aA (xs ++ ext)).length:Int) by rw [aD];exact qP.o);go_wp2_with fail;refine (h_ g tv l en iv _ c _ _ HA.o.ps (by omega) hlen).mono ?_;rintro e w2⟨rfl,hb2⟩;have HA2:=O (HA.o.below hb2);clear HA;clear hb2;have Dw:=O (aC.new w2 68 #[.int .u8 (tg l c).kind,.string (aM (tx l c)),.int .i64 (pl l en c)]);have zK:=O (HA2.o.alloc (.cells #[.int .u8 (tg l c).kind,.string (aM (tx l c)),.int .i64 (pl l en c)] 68));clear HA2;rcases gG qm.o with ⟨AX,G⟩ | ⟨AX,G⟩
  ·skip;have hlt3:=aP AX (by simp);have Qj:=O AX;clear AX;have L:=O G;clear G;go_wp2_with fail;refine (jg g tv l en iv hF [46] (.inr (by decide +kernel)) _ c _ _ zK.o.ps (by omega) Qj.o).mono ?_;rintro e w4⟨rfl,p4,m4⟩;have A:=O (zK.o.ps.aU m4 Dw.o);clear Dw;have q:=O (zK.o.step p4 m4);clear zK;clear p4 m4;have hzA:=q.o.mv.size;rcases gH L.o with ⟨zw,Mj⟩ | ⟨zw,rfl⟩
   rotate_left
   ·have Ns:=O zw;clear zw;have fH:=A.o.cell 0;have fQ:=A.o.cell 1;have fT:=A.o.cell 2;have sl0:=A.o.lt;go_wp2_with fail;refine wp_region_held_drew (S:=fun w'=>w'.cell? ⟨w2.heap.size,0,none⟩=some (.int .u8 (tg l c).kind)∧w'.cell? ⟨w2.heap.size,1,none⟩=some (.string (aM (tx l c)))∧w'.cell? ⟨w2.heap.size,2,none⟩=some (.int .i64 (pl l en c))) (by kernel_rfl) ⟨fH,fQ,fT⟩ (fun i=>?_);refine bf 0 rfl i ?_;simp only [Act.put,aaA,aaB,aaC];refine bf 1 rfl i ?_;simp only [Act.put,aaA,aaB,aaC];refine bf 2 rfl i ?_;simp only [Act.put,aaA,aaB,aaC];refine bf 5 rfl i ?_;simp only [Act.put,aaA,aaB,aaC];refine wpAnyH_ready (rs:=[3,6]) (by kernel_rfl) (by simp) ?_;refine Wv (.s (.s (.s .z))) (.s (.s (.s (.s (.s (.s .z)))))) (fun K hK=>?_) (fun K hK=>?_)
    ·go_simp;refine (mX g tv l en iv hF _ (c+1) _ _ q.o.ps.drew (by omega) Ns.o).mono ?_;rintro e w5⟨rfl,Z⟩;unfold aI;go_wp2_with fail;exact⟨rfl,aR.bad rfl ((Below.drew (H.o.low q.o.mv)).trans (Z.mono (aaK q.o.ps.lt)))⟩
    go_simp;refine hK.out _ _ ?_ (fun Mf=>?_)
    ·go_keep
    (try simp only [Act.put,aaA,aaB,aaC])
    refine wpAnyH_ready (rs:=[3]) (by kernel_rfl) (by simp) ?_;refine fJ (.s (.s (.s .z))) (fun K hK=>?_);go_simp;refine (mX g tv l en iv hF _ (c+1) _ _ (q.o.ps.drew.alloc _) (by omega) Ns.o).mono ?_;rintro e w5⟨rfl,Z⟩;unfold aI;go_wp2_with fail;exact⟨rfl,aR.bad rfl ((ah (Below.drew (H.o.low q.o.mv)) (aaK q.o.ps.lt)).trans (Z.mono (aaK (q.o.ps.drew.alloc _).lt)))⟩
   have hlt5:=fA zw (by simp);have Ns:=O zw;clear zw;have AU:=O Mj;clear Mj L;have tf1:=mQ;have fH:=A.o.cell 0;have fQ:=A.o.cell 1;have fT:=A.o.cell 2;have sl0:=A.o.lt;go_wp2_with fail
   go_region_held3 (fun w'=>w'.cell? ⟨w2.heap.size,0,none⟩=some (.int .u8 (tg l c).kind)∧w'.cell? ⟨w2.heap.size,1,none⟩=some (.string (aM (tx l c)))∧w'.cell? ⟨w2.heap.size,2,none⟩=some (.int .i64 (pl l en c)))
    (first | go_keep|(go_split_ands;refine⟨?_,?_,?_⟩ <;> assumption))
    (first
     | (go_at_call 202;(with_reducible refine (lC g tv l en iv hF _ (c+1) _ _ q.o.ps.drew (by omega) Ns.o).mono ?_);rintro e w5⟨rfl,p5,T⟩;unfold jl;have B:=O (q.o.drew.step p5 T);have y:=q.o.ps.drew.aU T A.o.drew;have wV:=y.cell 0;have wW:=y.cell 1;have wX:=y.cell 2;have Xx:=y.lt;have Bz:=O y;clear y;have Z4:=B.o.mv.size;clear p5 T)
     | (go_at_call 202;(with_reducible refine (lC g tv l en iv hF _ (c+1) _ _ ((q.o.ps.alloc (.cells #[.int .i64 (d)] 3)).drew) (by omega) Ns.o).mono ?_);rintro e w5⟨rfl,p5,T⟩;unfold jl;have B:=O ((At.alloc q.o (.cells #[.int .i64 (d)] 3)).drew.step p5 T);have AQ:=O ((q.o.ps.alloc (.cells #[.int .i64 (d)] 3)).drew.l6 T (own_below (rH _ (d)) (Below.drew (Below.refl _ _))));have y:=T.blk ((A.o.alloc (.cells #[.int .i64 (d)] 3)).drew) ((q.o.ps.alloc (.cells #[.int .i64 (d)] 3)).drew.tag ((A.o.alloc (.cells #[.int .i64 (d)] 3)).drew) (by decide) (by decide)).1 ((q.o.ps.alloc (.cells #[.int .i64 (d)] 3)).drew.tag ((A.o.alloc (.cells #[.int .i64 (d)] 3)).drew) (by decide) (by decide)).2;have wV:=y.cell 0;have wW:=y.cell 1;have wX:=y.cell 2;have Xx:=y.lt;have Bz:=O y;clear y;have Z4:=B.o.mv.size;clear p5 T)
     | (go_at_call 204;have TA:=gB g tv l en iv (aA (xs ++ ext)).length 22 (.int .u8 (tg l c).kind) (.string (aM (tx l c))) (pl l en c) (tx l (c+1)) 0 _ [d] _ ((c+1)+1) _ _ B.o.ps AQ.o B.o.len (by omega);(refine TA.mono ?_);clear TA;rintro e w6⟨rfl,XB,p6,m6⟩;have P:=B.o.ps.aU m6 Bz.o;have wY:=P.cell 0;have wZ:=P.cell 1;have w_:=P.cell 2;clear P;have ow:=O (B.o.add p6 m6 (by intro b hb;simp [Value.ownBlock] at hb;omega));clear p6 m6)
     | (go_at_call 204;have TA:=gB g tv l en iv (aA (xs ++ ext)).length 22 (.int .u8 (tg l c).kind) (.string (aM (tx l c))) (pl l en c) (tx l (c+1)) 0 _ [d] _ ((c+1)+1) _ _ (B.o.ps.alloc (.cells #[.int .i64 (d)] 3)) (rH w5 (d)) B.o.len (by omega);(refine TA.mono ?_);clear TA;rintro e w6⟨rfl,XB,p6,m6⟩;have P:=m6.blk (Bz.o.alloc _) (B.o.ps.tag Bz.o (by decide) (by decide)).1 (B.o.ps.tag Bz.o (by decide) (by decide)).2;have wY:=P.cell 0;have wZ:=P.cell 1;have w_:=P.cell 2;clear P;have ow:=O ((At.alloc B.o _).add p6 m6 (by intro b hb;simp [Value.ownBlock] at hb;omega));clear p6 m6))
   all_goals
    go_wp2_with fail;have Om:=ow.o.len;have E:=O Om;clear Om
    refine⟨⟨f,((c+1)+1),_,_,(((aA (xs ++ ext)).length:Nat):Int),rfl,by omega,by omega,by rw [E.o];simp only [aaO,aaT];omega,O (by rw [ow.o.ns];exact AU.o),O (by rw [ow.o.ns];exact nA.o.add (Ids.cons Q.o (Ids.nil _))),O (by rw [E.o];simp only [aaO,aaT];omega),O (by rw [ow.o.ns];exact ow.o)⟩,?_⟩
    rw [Lp.o,ow.o.ps.nG];omega
  ·skip;have Qj:=O AX;clear AX;have L:=O G;clear G;go_wp2_with fail;refine (kN g tv l en iv hF [46] (.inr (by decide +kernel)) _ c _ _ zK.o.ps (by omega) Qj.o).mono ?_;rintro e w7⟨rfl,nI⟩;have kD:=O (Dw.o.below nI Dw.o.lt);clear Dw;have o9:=O (zK.o.below nI);clear zK;clear nI;rcases gG L.o with ⟨x,Oy⟩ | ⟨x,Oy⟩
   ·skip;have hlt8:=aP x (by simp);have V:=O x;clear x;have U5:=O Oy;clear Oy;go_wp2_with fail;refine (jg g tv l en iv hF [91] (.inr (by decide +kernel)) _ c _ _ o9.o.ps (by omega) V.o).mono ?_;rintro e w9⟨rfl,p9,m9⟩;have l9:=O (o9.o.ps.aU m9 kD.o);clear kD;have D:=O (o9.o.step p9 m9);clear o9;clear p9 m9;rcases dW U5.o with ⟨ks10,M,U,ZT,Ch⟩ | ⟨kb10,ZT,rfl⟩
    rotate_left
    ·have v:=O ZT;clear ZT;go_wp2_with fail;refine (C f (by omega) .expr rfl _ (c+1) _ _ _ D.o.ps (by omega) (by rw [D.o.len];omega) (by rw [D.o.ns];exact nA.o) (by rw [D.o.ns];exact v.o)).mono ?_;rintro e Qv⟨rfl,Vx⟩;unfold aI;go_wp2_with fail;exact⟨rfl,aR.bad rfl ((H.o.low D.o.mv).trans Vx)⟩
    have v:=O ZT;clear ZT;have E9:=O Ch;clear Ch U5;go_wp2_with fail;refine (C f (by omega) .expr rfl _ (c+1) _ _ _ D.o.ps (by omega) (by rw [D.o.len];omega) (by rw [D.o.ns];exact nA.o) (by rw [D.o.ns];exact v.o)).mono ?_;rintro e Qv⟨rfl,ext10,nv10,F⟩;have UW:=O (aW v.o (by omega) nA.o (Ids.nil _) (by simp));have gl10:=UW.o.lo;have gf10:=UW.o.few;have ge10:=UW.o.le;have gn10:=UW.o.len;simp only [Job.reads] at gl10
    have o_:=O (F.blk D.o.ps l9.o (by decide) (by decide));clear l9;have Y:=O UW.o.wf;have vO:=O (D.o.trans F);clear D;clear F;rcases dO E9.o with ⟨D6,Oq⟩ | ⟨D6,rfl⟩
    rotate_left
    ·have QM:=O D6;clear D6;go_wp2_with fail;refine (gQ g tv l en iv hF [93] (.inr (by decide +kernel)) _ M _ _ vO.o.ps (by omega) QM.o).mono ?_;rintro e Et⟨rfl,Zy⟩;unfold aI;go_wp2_with fail;exact⟨rfl,aR.bad rfl ((H.o.low vO.o.mv).trans (Zy.mono (aaK vO.o.ps.lt)))⟩
    have U4:=O Oq;clear Oq E9;have hlt11:=aP D6 (by simp);have QM:=O D6;clear D6;go_wp2_with fail;refine (eZ g tv l en iv hF [93] (.inr (by decide +kernel)) _ M _ _ vO.o.ps (by omega) QM.o).mono ?_;rintro e Et⟨rfl,p11,m11⟩;have mF:=O (vO.o.ps.aU m11 o_.o);clear o_;have oz:=O (vO.o.step p11 m11);clear vO;clear p11 m11;have fH:=mF.o.cell 0;have fQ:=mF.o.cell 1;have fT:=mF.o.cell 2;have sl0:=mF.o.lt;go_wp2_with fail;refine (gB g tv l en iv U.length 23 _ _ _ [] 0 _ [d,hd ks10] _ (M+1) _ _ (oz.o.alloc _).ps (ug _ _ _) oz.o.len (by omega)).mono ?_;rintro e wQ⟨rfl,uL,p12,m12⟩;have hzz:=oz.o.mv.size;have rM:=O ((oz.o.alloc _).add p12 m12 (by intro b hb;simp [Value.ownBlock] at hb;omega));clear p12 m12;go_wp2_with fail;have Om:=rM.o.len;have E:=O Om;clear Om
    refine⟨⟨f,(M+1),_,_,((U.length:Nat):Int),rfl,by omega,by omega,by rw [E.o];simp only [aaO,aaT];omega,O (by rw [rM.o.ns];exact U4.o),O (by rw [rM.o.ns];exact Y.o.add (Ids.cons (by have:=Q.o;omega) (Ids.cons UW.o.hd (Ids.nil _)))),O (by rw [E.o];simp only [aaO,aaT];omega),O (by rw [rM.o.ns];exact rM.o)⟩,?_⟩
    rw [Lp.o,rM.o.ps.nG];omega
   ·skip;have V:=O x;clear x;have U5:=O Oy;clear Oy;go_wp2_with fail;refine (kN g tv l en iv hF [91] (.inr (by decide +kernel)) _ c _ _ o9.o.ps (by omega) V.o).mono ?_;rintro e w13⟨rfl,RQ⟩;have vP:=O (kD.o.below RQ kD.o.lt);clear kD;have qw:=O (o9.o.below RQ);clear o9;clear RQ;have HST:=O (aaP U5.o).symm;go_wp2_with fail;go_ret;rw [HST.o];exact aR.ok rfl qw.o
end
end Go.Proofs.YthepmkjggfijoaaGreatDoor
namespace Go.Proofs.YthepmkjggfijoaaGreatDoor
open Go.RowKit Mist
section
variable {g:Nat} {tv:Value} {l:List Tok} {en:Int} {iv:Value} (hF:PF l)
include hF
theorem J3 (m:Nat):(∀ f,f≤m→∀ j,isFn j=true→IC g tv l en iv f j)∧(∀ f,f≤m→∀ e,LC g tv l en iv f e):=by
 induction m with
 | zero =>
  constructor
  ·intro f a j _ w k xs nv r _ _ _ _ d;obtain rfl:f=0:=by omega
   rw [run] at d;cases d
  ·intro f a e w k xs nv r _ _ _ _ d;obtain rfl:f=0:=by omega
   rw [run] at d;cases d
 | succ m o =>
  obtain⟨C,b⟩:=o
  have n:∀ e,LC g tv l en iv (m+1) e:=by
   intro e
   cases e with
   | expr=>exact VZ hF m fun f a=>C f a _ rfl
   | put=>exact aan hF m fun f a=>C f a _ rfl
   | param=>exact Sc hF m fun f a=>C f a _ rfl
  have i:∀ j,isFn j=true→IC g tv l en iv (m+1) j:=by
   intro j c
   cases j with
   | expr=>exact Wi hF m C b
   | post=>exact Wj hF m C b
   | atom=>exact Wh hF m C b
   | put=>exact part_put hF m C b
   | param=>exact Sw hF m C b
   | typ=>exact part_typ hF m C b
   | lv v =>
    cases v with
    | or=>exact part_or hF m fun f a=>C f a _ rfl
    | and=>exact part_and hF m fun f a=>C f a _ rfl
    | not=>exact part_not hF m C b
    | cmp=>exact part_cmp hF m fun f a=>C f a _ rfl
    | sum=>exact part_sum hF m fun f a=>C f a _ rfl
    | term=>exact Wm hF m fun f a=>C f a _ rfl
    | unary=>exact Sy hF m C b
   | tail _ _=>cases c
   | iq _=>cases c
   | list _=>cases c
   | eu _ _=>cases c
  constructor
  ·intro f a j c;rcases Nat.lt_or_ge f (m+1) with h | h
   ·exact C f (by omega) j c
   ·obtain rfl:f=m+1:=by omega
    exact i j c
  ·intro f a e;rcases Nat.lt_or_ge f (m+1) with h | h
   ·exact b f (by omega) e
   ·obtain rfl:f=m+1:=by omega
    exact n e
theorem qd (m:Nat)(j:Job)(a:isFn j=true):IC g tv l en iv m j:=(J3 hF m).1 m (aaJ _) j a
theorem pW (m:Nat)(e:El):LC g tv l en iv m e:=(J3 hF m).2 m (aaJ _) e
end
end Go.Proofs.YthepmkjggfijoaaGreatDoor
