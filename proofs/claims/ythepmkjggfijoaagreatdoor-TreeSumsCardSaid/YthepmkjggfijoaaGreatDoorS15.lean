/-
  A part of the proof.
-/
import Derived.Test.YthepmkjggfijoaaGreatDoorSA
import Derived.Test.YthepmkjggfijoaaGreatDoorS08
import Derived.Test.YthepmkjggfijoaaGreatDoorS11
import Derived.Test.YthepmkjggfijoaaGreatDoorS12
import Derived.Test.YthepmkjggfijoaaGreatDoorS13
import Derived.Test.YthepmkjggfijoaaGreatDoorS14
set_option linter.all false
set_option maxRecDepth 100000
set_option maxHeartbeats 4000000
open Go.Lib (hid)
namespace Go.Proofs.YthepmkjggfijoaaGreatDoor
open Go.RowKit Mist
attribute [local go_sem] aj aH aS aB ak
section
variable {g:Nat} {tv:Value} {l:List Tok} {en:Int} {iv:Value} (hF:PF l)
include hF
theorem Wh (m:Nat)(C:∀ f,f≤m→∀ j,isFn j=true→IC g tv l en iv f j)(CL:∀ f,f≤m→∀ e,LC g tv l en iv f e):IC g tv l en iv (m+1) .atom:=by
 intro w k xs nv r h hk hn hw hr;have H:=hid h;clear h;have uD:=hid (At.refl H.out);have HW0:=hid hw;clear hw;have hn0:(aA xs).length≤k:=by rw [aD];exact hn
 have hlen:=hF.len;rw [run] at hr
 unfold t_;go_enter Tryz.func258,Tryz.ntmps258
 have qm:=hid hr;clear hr;go_wp2_with fail;refine (h_ g tv l en iv _ k _ _ uD.out.ps (by omega) hlen).mono ?_;rintro e w1⟨rfl,hb1⟩;have HA1:=hid (uD.out.below hb1);skip;clear hb1;have og:=hid (aC.new w1 68 #[.int .u8 (tg l k).kind,.string (aM (tx l k)),.int .i64 (pl l en k)]);have aZ:=hid (HA1.out.alloc (.cells #[.int .u8 (tg l k).kind,.string (aM (tx l k)),.int .i64 (pl l en k)] 68));clear HA1;rcases gG qm.out with ⟨he2,hr2⟩ | ⟨he2,hr2⟩
 ·skip;have hlt2:=fA he2 (by simp);have b2:(((tg l k).kind:Int) == 2)=true:=by rw [he2];rfl
  have HE2:=hid he2;clear he2;have HR2:=hid hr2;clear hr2;have fH:=og.out.cell 0;have sl0:=og.out.lt;go_wp2_with fail;clear b2;refine (pY g tv l en iv hF _ k _ _ aZ.out.ps (by omega) HE2.out).mono ?_;rintro e w3⟨rfl,p3,m3⟩;have iG:=hid (aZ.out.ps.aU m3 og.out);clear og;have gM:=hid (aZ.out.step p3 m3);clear aZ;clear p3 m3;unfold jl;have Bd:=hid (iG.out.alloc (.cells #[.int .u8 (tg l k).kind,.string (aM (tx l k)),.int .i64 (pl l en k)] 68));clear iG;have HN3:=hid (aC.new w3 68 #[.int .u8 (tg l k).kind,.string (aM (tx l k)),.int .i64 (pl l en k)]);have Qw:=hid (gM.out.alloc (.cells #[.int .u8 (tg l k).kind,.string (aM (tx l k)),.int .i64 (pl l en k)] 68));clear gM;obtain rfl:=dV HR2.out;have fH:=Bd.out.cell 0;have fQ:=Bd.out.cell 1;have fT:=Bd.out.cell 2;have sl0:=Bd.out.lt;go_wp2_with fail;refine (gB g tv l en iv (aA xs).length 1 _ _ _ [] ((numOf (tx l k):Nat):Int) _ [] _ (k+1) _ _ Qw.out.ps (cB.none_ _) Qw.out.len (by omega)).mono ?_;rintro e w4⟨rfl,yH,p4,m4⟩;have rM:=hid (Qw.out.add p4 m4 (by intro b hb;simp [Value.ownBlock] at hb));clear p4 m4;go_wp2_with fail;go_ret;exact aR.ok rfl rM.out
 ·skip;have b2:(((tg l k).kind:Int) == 2)=false:=by simp;omega
  have HE2:=hid he2;clear he2;have HR2:=hid hr2;clear hr2;have fH:=og.out.cell 0;have sl0:=og.out.lt;go_wp2_with fail;clear b2;rcases gG HR2.out with ⟨zw,Mj⟩ | ⟨zw,Mj⟩
  ·skip;have hlt5:=aP zw (by simp);have Ns:=hid zw;clear zw;have AU:=hid Mj;clear Mj;go_wp2_with fail;refine (jg g tv l en iv hF [116,114,117,101] (.inl (by decide +kernel)) _ k _ _ aZ.out.ps (by omega) Ns.out).mono ?_;rintro e w6⟨rfl,p6,m6⟩;have n_:=hid (aZ.out.ps.aU m6 og.out);clear og;have ow:=hid (aZ.out.step p6 m6);clear aZ;clear p6 m6;obtain rfl:=dV AU.out;have fH:=n_.out.cell 0;have fQ:=n_.out.cell 1;have fT:=n_.out.cell 2;have sl0:=n_.out.lt;go_wp2_with fail;refine (gB g tv l en iv (aA xs).length 2 _ _ _ [] 1 _ [] _ (k+1) _ _ ow.out.ps (cB.none_ _) ow.out.len (by omega)).mono ?_;rintro e w7⟨rfl,nv7,p7,m7⟩;have rM:=hid (ow.out.add p7 m7 (by intro b hb;simp [Value.ownBlock] at hb));clear p7 m7;go_wp2_with fail;go_ret;exact aR.ok rfl rM.out
  ·skip;have Ns:=hid zw;clear zw;have AU:=hid Mj;clear Mj;go_wp2_with fail;refine (kN g tv l en iv hF [116,114,117,101] (.inl (by decide +kernel)) _ k _ _ aZ.out.ps (by omega) Ns.out).mono ?_;rintro e w8⟨rfl,tZ⟩;have uO:=hid (og.out.below tZ og.out.lt);clear og;have zL:=hid (aZ.out.below tZ);clear aZ;clear tZ;rcases gG AU.out with ⟨VJ,Qs⟩ | ⟨VJ,Qs⟩
   ·skip;have hlt9:=aP VJ (by simp);have HE9:=hid VJ;clear VJ;have HR9:=hid Qs;clear Qs;go_wp2_with fail;refine (jg g tv l en iv hF [102,97,108,115,101] (.inl (by decide +kernel)) _ k _ _ zL.out.ps (by omega) HE9.out).mono ?_;rintro e Qv⟨rfl,p10,m10⟩;have o_:=hid (zL.out.ps.aU m10 uO.out);clear uO;have vO:=hid (zL.out.step p10 m10);clear zL;clear p10 m10;obtain rfl:=dV HR9.out;have fH:=o_.out.cell 0;have fQ:=o_.out.cell 1;have fT:=o_.out.cell 2;have sl0:=o_.out.lt;go_wp2_with fail;refine (gB g tv l en iv (aA xs).length 2 _ _ _ [] 0 _ [] _ (k+1) _ _ vO.out.ps (cB.none_ _) vO.out.len (by omega)).mono ?_;rintro e Et⟨rfl,nv11,p11,m11⟩;have rM:=hid (vO.out.add p11 m11 (by intro b hb;simp [Value.ownBlock] at hb));clear p11 m11;go_wp2_with fail;go_ret;exact aR.ok rfl rM.out
   ·skip;have HE9:=hid VJ;clear VJ;have HR9:=hid Qs;clear Qs;go_wp2_with fail;refine (kN g tv l en iv hF [102,97,108,115,101] (.inl (by decide +kernel)) _ k _ _ zL.out.ps (by omega) HE9.out).mono ?_;rintro e wQ⟨rfl,G6⟩;have oD:=hid (uO.out.below G6 uO.out.lt);clear uO;have mo:=hid (zL.out.below G6);clear zL;clear G6;rcases gG HR9.out with ⟨pV,yh⟩ | ⟨pV,yh⟩
    ·skip;have ZG:=aP pV (by simp);have zM:=hid pV;clear pV;have zN:=hid yh;clear yh;go_wp2_with fail;refine (jg g tv l en iv hF [40] (.inr (by decide +kernel)) _ k _ _ mo.out.ps (by omega) zM.out).mono ?_;rintro e Tx⟨rfl,p14,m14⟩;have oF:=hid (mo.out.ps.aU m14 oD.out);clear oD;have jP:=hid (mo.out.step p14 m14);clear mo;clear p14 m14;rcases dW zN.out with ⟨ks15,k15,ns15,G_,G9⟩ | ⟨kb15,G_,rfl⟩
     rotate_left
     ·have LG:=hid G_;clear G_;go_wp2_with fail;refine (C m (aaJ _) .expr rfl _ (k+1) _ _ _ jP.out.ps (by omega) (by rw [jP.out.len];omega) (by rw [jP.out.ns];exact HW0.out) (by rw [jP.out.ns];exact LG.out)).mono ?_;rintro e JM⟨rfl,RV⟩;unfold aI;go_wp2_with fail;exact⟨rfl,aR.bad rfl ((H.out.low jP.out.mv).trans RV)⟩
     have LG:=hid G_;clear G_;have Ls:=hid G9;clear G9 zN;go_wp2_with fail;refine (C m (aaJ _) .expr rfl _ (k+1) _ _ _ jP.out.ps (by omega) (by rw [jP.out.len];omega) (by rw [jP.out.ns];exact HW0.out) (by rw [jP.out.ns];exact LG.out)).mono ?_;rintro e JM⟨rfl,ext15,aav,Oj⟩;have FR:=hid (aW LG.out (by omega) HW0.out (Ids.nil _) (by simp));have gl15:=FR.out.lo;have gf15:=FR.out.few;have ge15:=FR.out.le;have gn15:=FR.out.len;simp only [Job.reads] at gl15
     have nU:=hid (Oj.blk jP.out.ps oF.out (by decide) (by decide));clear oF;have TT:=hid FR.out.wf;have qR:=hid (jP.out.trans Oj);clear jP;clear Oj;rcases dO Ls.out with ⟨uZ,Ou⟩ | ⟨uZ,rfl⟩
     rotate_left
     ·have F5:=hid uZ;clear uZ;go_wp2_with fail;refine (gQ g tv l en iv hF [41] (.inr (by decide +kernel)) _ k15 _ _ qR.out.ps (by omega) F5.out).mono ?_;rintro e w16⟨rfl,Zz⟩;unfold aI;go_wp2_with fail;exact⟨rfl,aR.bad rfl ((H.out.low qR.out.mv).trans (Zz.mono (aaK qR.out.ps.lt)))⟩
     have Q0:=hid Ou;clear Ou Ls;have hlt16:=aP uZ (by simp);have F5:=hid uZ;clear uZ;go_wp2_with fail;refine (eZ g tv l en iv hF [41] (.inr (by decide +kernel)) _ k15 _ _ qR.out.ps (by omega) F5.out).mono ?_;rintro e w16⟨rfl,p16,m16⟩;have pq:=hid (qR.out.ps.aU m16 nU.out);clear nU;have oC:=hid (qR.out.step p16 m16);clear qR;clear p16 m16;obtain rfl:=(aaP Q0.out).symm;go_wp2_with fail;go_ret;exact aR.ok rfl oC.out
    ·skip;have zM:=hid pV;clear pV;have zN:=hid yh;clear yh;go_wp2_with fail;refine (kN g tv l en iv hF [40] (.inr (by decide +kernel)) _ k _ _ mo.out.ps (by omega) zM.out).mono ?_;rintro e w17⟨rfl,zW⟩;have jQ:=hid (oD.out.below zW oD.out.lt);clear oD;have nT:=hid (mo.out.below zW);clear mo;clear zW;rcases gG zN.out with ⟨D8,Ov⟩ | ⟨D8,Ov⟩
     ·skip;have hlt18:=aP D8 (by simp);have QO:=hid D8;clear D8;have Q7:=hid Ov;clear Ov;go_wp2_with fail;refine (jg g tv l en iv hF [91] (.inr (by decide +kernel)) _ k _ _ nT.out.ps (by omega) QO.out).mono ?_;rintro e w19⟨rfl,p19,m19⟩;have QE:=hid (nT.out.ps.aU m19 jQ.out);clear jQ;have tJ:=hid (nT.out.step p19 m19);clear nT;clear p19 m19;rcases dW Q7.out with ⟨ks20,k20,ns20,ZW,RY⟩ | ⟨kb20,ZW,rfl⟩
      rotate_left
      ·have HX20:=hid ZW;clear ZW;go_wp2_with fail;refine (CL m (aaJ _) .expr _ (k+1) _ _ _ tJ.out.ps (by omega) (by rw [tJ.out.len];omega) (by rw [tJ.out.ns];exact HW0.out) (by rw [tJ.out.ns];exact HX20.out)).mono ?_;rintro e w20⟨rfl,RX⟩;unfold aI;go_wp2_with fail;exact⟨rfl,aR.bad rfl ((H.out.low tJ.out.mv).trans RX)⟩
      have HX20:=hid ZW;clear ZW;have HR20:=hid RY;clear RY Q7;go_wp2_with fail;refine (CL m (aaJ _) .expr _ (k+1) _ _ _ tJ.out.ps (by omega) (by rw [tJ.out.len];omega) (by rw [tJ.out.ns];exact HW0.out) (by rw [tJ.out.ns];exact HX20.out)).mono ?_;rintro e w20⟨v20,ext20,nv20,rfl,ho20,ha20,hd20⟩;have HV20:=hid (kI (base':=w.heap.size) ho20 (fun b hb=>Nat.le_trans tJ.out.mv.size (ho20.lt b hb).1));clear ho20 hd20;have XI:=hid (aW HX20.out (by omega) HW0.out (Ids.nil _) (by simp));have gl20:=XI.out.lo;have gf20:=XI.out.few;have ge20:=XI.out.le;have gn20:=XI.out.len;simp only [Job.reads] at gl20
      have FV:=hid (ha20.blk tJ.out.ps QE.out (by decide) (by decide));clear QE;have HWF20:=hid XI.out.wf;have xu:=hid (tJ.out.trans ha20);clear tJ;clear ha20;rcases dO HR20.out with ⟨Mg,Ow⟩ | ⟨Mg,rfl⟩
      rotate_left
      ·have HE21:=hid Mg;clear Mg;go_wp2_with fail;refine (gQ g tv l en iv hF [93] (.inr (by decide +kernel)) _ k20 _ _ xu.out.ps (by omega) HE21.out).mono ?_;rintro e w21⟨rfl,hb21⟩;unfold aI;go_wp2_with fail;exact⟨rfl,aR.bad rfl ((H.out.low xu.out.mv).trans (hb21.mono (aaK xu.out.ps.lt)))⟩
      have HR21:=hid Ow;clear Ow HR20;have hlt21:=aP Mg (by simp);have HE21:=hid Mg;clear Mg;go_wp2_with fail;refine (eZ g tv l en iv hF [93] (.inr (by decide +kernel)) _ k20 _ _ xu.out.ps (by omega) HE21.out).mono ?_;rintro e w21⟨rfl,p21,m21⟩;have La:=hid (xu.out.ps.aU m21 FV.out);clear FV;have YN:=hid (xu.out.ps.iI m21 HV20.out (by decide) (by decide));clear HV20;have HA21:=hid (xu.out.step p21 m21);clear xu;clear p21 m21;obtain rfl:=dV HR21.out;have fH:=La.out.cell 0;have fQ:=La.out.cell 1;have fT:=La.out.cell 2;have sl0:=La.out.lt;go_wp2_with fail;refine (gB g tv l en iv ns20.length 26 _ _ _ [] 0 _ ks20 _ (k20+1) _ _ HA21.out.ps (kI YN.out (fun _ _=>aaL _)) HA21.out.len (by omega)).mono ?_;rintro e w22⟨rfl,nv22,p22,m22⟩;have rM:=hid (HA21.out.add p22 m22 (fun b hb=>(YN.out.lt b hb).1));clear p22 m22;go_wp2_with fail;go_ret;exact aR.ok rfl rM.out
     ·skip;have QO:=hid D8;clear D8;have Q7:=hid Ov;clear Ov;go_wp2_with fail;refine (kN g tv l en iv hF [91] (.inr (by decide +kernel)) _ k _ _ nT.out.ps (by omega) QO.out).mono ?_;rintro e w23⟨rfl,ZA⟩;have FW:=hid (jQ.out.below ZA jQ.out.lt);clear jQ;have FT:=hid (nT.out.below ZA);clear nT;clear ZA;rcases gH Q7.out with ⟨Vz,hr24⟩ | ⟨Vz,rfl⟩
      rotate_left
      ·have HE24:=hid Vz;clear Vz;go_wp2_with fail;refine (mX g tv l en iv hF _ k _ _ FT.out.ps (by omega) HE24.out).mono ?_;rintro e w24⟨rfl,hb24⟩;unfold aI;go_wp2_with fail;exact⟨rfl,aR.bad rfl ((H.out.low FT.out.mv).trans (hb24.mono (aaK FT.out.ps.lt)))⟩
      have HR24:=hid hr24;clear hr24 Q7;have hlt24:=fA Vz (by simp);have HE24:=hid Vz;clear Vz;go_wp2_with fail;refine (lC g tv l en iv hF _ k _ _ FT.out.ps (by omega) HE24.out).mono ?_;rintro e w24⟨rfl,p24,m24⟩;have FX:=hid (FT.out.ps.aU m24 FW.out);clear FW;have Jo:=hid (FT.out.step p24 m24);clear FT;clear p24 m24;unfold jl;have HQ:=hid (V7 hF m CL _ k _ _ r Jo.out.ps (by omega) (by rw [Jo.out.len];omega) (by rw [Jo.out.ns];exact HW0.out) (by rw [Jo.out.ns];exact HR24.out));go_wp2_with fail
      cases r with
      | bad kb =>
       refine HQ.out.mono ?_;rintro e wq⟨rfl,hbq⟩;unfold aI;go_wp2_with fail;exact⟨rfl,aR.bad rfl ((H.out.low Jo.out.mv).trans hbq)⟩
      | ok ksq kq nsq =>
       refine HQ.out.mono ?_;rintro e wq⟨rfl,extq,nvq,haq⟩;have HAQ:=hid (Jo.out.trans haq);clear haq;go_wp2_with fail;go_ret;exact aR.ok rfl HAQ.out
end
section
variable {g:Nat} {tv:Value} {l:List Tok} {en:Int} {iv:Value} (hF:PF l)
include hF
theorem Wj (m:Nat)(C:∀ f,f≤m→∀ j,isFn j=true→IC g tv l en iv f j)(CL:∀ f,f≤m→∀ e,LC g tv l en iv f e):IC g tv l en iv (m+1) .post:=by
 intro w k xs nv r h hk hn hw hr;have H:=hid h;clear h;have uD:=hid (At.refl H.out);have HW0:=hid hw;clear hw;have hn0:(aA xs).length≤k:=by rw [aD];exact hn
 have hlen:=hF.len;rw [run] at hr
 unfold t_;go_enter Tryz.func257,Tryz.ntmps257
 have qm:=hid hr;clear hr;rcases dW qm.out with ⟨ks1,k1,aJ,hx1,hr1⟩ | ⟨kb1,hx1,rfl⟩
 rotate_left
 ·have Xu:=hid hx1;clear hx1;go_wp2_with fail;refine (C m (aaJ _) .atom rfl _ k _ _ _ uD.out.ps (by omega) (by rw [uD.out.len];omega) (by rw [uD.out.ns];exact HW0.out) (by rw [uD.out.ns];exact Xu.out)).mono ?_;rintro e w1⟨rfl,hb1⟩;unfold aI;go_wp2_with fail;exact⟨rfl,aR.bad rfl ((H.out.low uD.out.mv).trans hb1)⟩
 have Xu:=hid hx1;clear hx1;have HR1:=hid hr1;clear hr1 qm;go_wp2_with fail;refine (C m (aaJ _) .atom rfl _ k _ _ _ uD.out.ps (by omega) (by rw [uD.out.len];omega) (by rw [uD.out.ns];exact HW0.out) (by rw [uD.out.ns];exact Xu.out)).mono ?_;rintro e w1⟨rfl,ext1,gW,ha1⟩;have GO1:=hid (aW Xu.out (by omega) HW0.out (Ids.nil _) (by simp));have gl1:=GO1.out.lo;have gf1:=GO1.out.few;have ge1:=GO1.out.le;have gn1:=GO1.out.len;simp only [Job.reads] at gl1
 have HWF1:=hid GO1.out.wf;have HA1:=hid (uD.out.trans ha1);skip;clear ha1;have HRL:=hid (show run l en m (.iq (hd ks1)) k1 (aA (xs ++ ([] ++ ext1)))=some r by rw [HA1.out.ns];exact HR1.out);have HWL:=hid (show Wf (aA (xs ++ ([] ++ ext1))) by rw [HA1.out.ns];exact HWF1.out);have qP:=hid (show 0≤hd ks1∧hd ks1 < ((xs ++ ([] ++ ext1)).length:Int) by rw [HA1.out.len];exact GO1.out.hd);have JR:=hid (show At g tv l en iv w xs nv k1 (aA (xs ++ ([] ++ ext1))) w1 ([] ++ ext1) gW by rw [HA1.out.ns];exact HA1.out);have hcn:(xs ++ ([] ++ ext1)).length≤k1:=by rw [HA1.out.len];omega
 obtain⟨av,EF⟩:∃ av,av=hd ks1:=⟨_,rfl⟩;rw [← EF] at HRL qP ⊢
 clear EF;go_wp2_with fail;go_loopw [3] (fun a wr=>∃ (f k':Nat) (ext:List NV) (eO:Value) (av:Int),a=.int .i64 av∧f≤m∧k'≤l.length∧(xs ++ ext).length≤k'∧Hid (run l en f (.iq av) k' (aA (xs ++ ext))=some r)∧Hid (Wf (aA (xs ++ ext)))∧Hid (0≤av∧av < ((xs ++ ext).length:Int))∧Hid (At g tv l en iv w xs nv k' (aA (xs ++ ext)) wr ext eO)) (fun _ wr=>nG g l.length wr)
 case atStart=>exact⟨m,k1,[] ++ ext1,gW,av,rfl,aaJ _,ge1,hcn,HRL,HWL,qP,JR⟩
 case round =>
  clear HRL HWL qP JR hcn HA1 HR1 Xu GO1 gl1 gf1 ge1 gn1 HWF1;obtain⟨f,k',ext,eO,av,rfl,hfm,hk',hn',nH,nA,qP,HA⟩:=hrel
  obtain⟨f,rfl⟩:∃ f0,f=f0+1:=⟨f - 1,by
   rcases Nat.eq_zero_or_pos f with h | h
   ·subst h;have:=nH.out;rw [run] at this;cases this
   ·omega⟩
  have Lp:=hid (HA.out.ps.nG (n:=l.length));have hnl:(aA (xs ++ ext)).length≤k':=by rw [aD];exact hn'
  have hr:=nH.out;rw [run] at hr;have qm:=hid hr;clear hr nH
  have HIDN:=hid (show 0≤av∧av < ((aA (xs ++ ext)).length:Int) by rw [aD];exact qP.out);go_wp2_with fail;refine (h_ g tv l en iv _ k' _ _ HA.out.ps (by omega) hlen).mono ?_;rintro e w2⟨rfl,hb2⟩;have HA2:=hid (HA.out.below hb2);clear HA;clear hb2;have Dw:=hid (aC.new w2 68 #[.int .u8 (tg l k').kind,.string (aM (tx l k')),.int .i64 (pl l en k')]);have zK:=hid (HA2.out.alloc (.cells #[.int .u8 (tg l k').kind,.string (aM (tx l k')),.int .i64 (pl l en k')] 68));clear HA2;rcases gG qm.out with ⟨AX,hr3⟩ | ⟨AX,hr3⟩
  ·skip;have hlt3:=aP AX (by simp);have Qj:=hid AX;clear AX;have HR3:=hid hr3;clear hr3;go_wp2_with fail;refine (jg g tv l en iv hF [46] (.inr (by decide +kernel)) _ k' _ _ zK.out.ps (by omega) Qj.out).mono ?_;rintro e w4⟨rfl,p4,m4⟩;have iw:=hid (zK.out.ps.aU m4 Dw.out);clear Dw;have fq:=hid (zK.out.step p4 m4);clear zK;clear p4 m4;have hzA:=fq.out.mv.size;rcases gH HR3.out with ⟨zw,Mj⟩ | ⟨zw,rfl⟩
   rotate_left
   ·have Ns:=hid zw;clear zw;have fH:=iw.out.cell 0;have fQ:=iw.out.cell 1;have fT:=iw.out.cell 2;have sl0:=iw.out.lt;go_wp2_with fail;refine wp_region_held_drew (S:=fun w'=>w'.cell? ⟨w2.heap.size,0,none⟩=some (.int .u8 (tg l k').kind)∧w'.cell? ⟨w2.heap.size,1,none⟩=some (.string (aM (tx l k')))∧w'.cell? ⟨w2.heap.size,2,none⟩=some (.int .i64 (pl l en k'))) (by kernel_rfl) ⟨fH,fQ,fT⟩ (fun hHeld=>?_);refine bf 0 rfl hHeld ?_;simp only [Act.put,aaA,aaB,aaC];refine bf 1 rfl hHeld ?_;simp only [Act.put,aaA,aaB,aaC];refine bf 2 rfl hHeld ?_;simp only [Act.put,aaA,aaB,aaC];refine bf 5 rfl hHeld ?_;simp only [Act.put,aaA,aaB,aaC];refine wpAnyH_ready (rs:=[3,6]) (by kernel_rfl) (by simp) ?_;refine Wv (.s (.s (.s .z))) (.s (.s (.s (.s (.s (.s .z)))))) (fun K hK=>?_) (fun K hK=>?_)
    ·go_simp;refine (mX g tv l en iv hF _ (k'+1) _ _ fq.out.ps.drew (by omega) Ns.out).mono ?_;rintro e w5⟨rfl,hb5⟩;unfold aI;go_wp2_with fail;exact⟨rfl,aR.bad rfl ((Below.drew (H.out.low fq.out.mv)).trans (hb5.mono (aaK fq.out.ps.lt)))⟩
    go_simp;refine hK.out _ _ ?_ (fun Mf=>?_)
    ·go_keep
    (try simp only [Act.put,aaA,aaB,aaC])
    refine wpAnyH_ready (rs:=[3]) (by kernel_rfl) (by simp) ?_;refine fJ (.s (.s (.s .z))) (fun K hK=>?_);go_simp;refine (mX g tv l en iv hF _ (k'+1) _ _ (fq.out.ps.drew.alloc _) (by omega) Ns.out).mono ?_;rintro e w5⟨rfl,hb5⟩;unfold aI;go_wp2_with fail;exact⟨rfl,aR.bad rfl ((ah (Below.drew (H.out.low fq.out.mv)) (aaK fq.out.ps.lt)).trans (hb5.mono (aaK (fq.out.ps.drew.alloc _).lt)))⟩
   have hlt5:=fA zw (by simp);have Ns:=hid zw;clear zw;have AU:=hid Mj;clear Mj HR3;have tf1:=mQ;have fH:=iw.out.cell 0;have fQ:=iw.out.cell 1;have fT:=iw.out.cell 2;have sl0:=iw.out.lt;go_wp2_with fail
   go_region_held3 (fun w'=>w'.cell? ⟨w2.heap.size,0,none⟩=some (.int .u8 (tg l k').kind)∧w'.cell? ⟨w2.heap.size,1,none⟩=some (.string (aM (tx l k')))∧w'.cell? ⟨w2.heap.size,2,none⟩=some (.int .i64 (pl l en k')))
    (first | go_keep|(go_split_ands;refine⟨?_,?_,?_⟩ <;> assumption))
    (first
     | (go_at_call 202;(with_reducible refine (lC g tv l en iv hF _ (k'+1) _ _ fq.out.ps.drew (by omega) Ns.out).mono ?_);rintro e w5⟨rfl,p5,m5⟩;unfold jl;have jX:=hid (fq.out.drew.step p5 m5);have oh:=fq.out.ps.drew.aU m5 iw.out.drew;have wV:=oh.cell 0;have wW:=oh.cell 1;have wX:=oh.cell 2;have Xx:=oh.lt;have Bz:=hid oh;clear oh;have Z4:=jX.out.mv.size;clear p5 m5)
     | (go_at_call 202;(with_reducible refine (lC g tv l en iv hF _ (k'+1) _ _ ((fq.out.ps.alloc (.cells #[.int .i64 (av)] 3)).drew) (by omega) Ns.out).mono ?_);rintro e w5⟨rfl,p5,m5⟩;unfold jl;have jX:=hid ((At.alloc fq.out (.cells #[.int .i64 (av)] 3)).drew.step p5 m5);have AQ:=hid ((fq.out.ps.alloc (.cells #[.int .i64 (av)] 3)).drew.l6 m5 (own_below (rH _ (av)) (Below.drew (Below.refl _ _))));have oh:=m5.blk ((iw.out.alloc (.cells #[.int .i64 (av)] 3)).drew) ((fq.out.ps.alloc (.cells #[.int .i64 (av)] 3)).drew.tag ((iw.out.alloc (.cells #[.int .i64 (av)] 3)).drew) (by decide) (by decide)).1 ((fq.out.ps.alloc (.cells #[.int .i64 (av)] 3)).drew.tag ((iw.out.alloc (.cells #[.int .i64 (av)] 3)).drew) (by decide) (by decide)).2;have wV:=oh.cell 0;have wW:=oh.cell 1;have wX:=oh.cell 2;have Xx:=oh.lt;have Bz:=hid oh;clear oh;have Z4:=jX.out.mv.size;clear p5 m5)
     | (go_at_call 204;have TA:=gB g tv l en iv (aA (xs ++ ext)).length 22 (.int .u8 (tg l k').kind) (.string (aM (tx l k'))) (pl l en k') (tx l (k'+1)) 0 _ [av] _ ((k'+1)+1) _ _ jX.out.ps AQ.out jX.out.len (by omega);(refine TA.mono ?_);clear TA;rintro e w6⟨rfl,XB,p6,m6⟩;have tT:=jX.out.ps.aU m6 Bz.out;have wY:=tT.cell 0;have wZ:=tT.cell 1;have w_:=tT.cell 2;clear tT;have ow:=hid (jX.out.add p6 m6 (by intro b hb;simp [Value.ownBlock] at hb;omega));clear p6 m6)
     | (go_at_call 204;have TA:=gB g tv l en iv (aA (xs ++ ext)).length 22 (.int .u8 (tg l k').kind) (.string (aM (tx l k'))) (pl l en k') (tx l (k'+1)) 0 _ [av] _ ((k'+1)+1) _ _ (jX.out.ps.alloc (.cells #[.int .i64 (av)] 3)) (rH w5 (av)) jX.out.len (by omega);(refine TA.mono ?_);clear TA;rintro e w6⟨rfl,XB,p6,m6⟩;have tT:=m6.blk (Bz.out.alloc _) (jX.out.ps.tag Bz.out (by decide) (by decide)).1 (jX.out.ps.tag Bz.out (by decide) (by decide)).2;have wY:=tT.cell 0;have wZ:=tT.cell 1;have w_:=tT.cell 2;clear tT;have ow:=hid ((At.alloc jX.out _).add p6 m6 (by intro b hb;simp [Value.ownBlock] at hb;omega));clear p6 m6))
   all_goals
    go_wp2_with fail;have Om:=ow.out.len;have HG5:=hid Om;clear Om
    refine⟨⟨f,((k'+1)+1),_,_,(((aA (xs ++ ext)).length:Nat):Int),rfl,by omega,by omega,by rw [HG5.out];simp only [aaO,aaT];omega,hid (by rw [ow.out.ns];exact AU.out),hid (by rw [ow.out.ns];exact nA.out.add (Ids.cons HIDN.out (Ids.nil _))),hid (by rw [HG5.out];simp only [aaO,aaT];omega),hid (by rw [ow.out.ns];exact ow.out)⟩,?_⟩
    rw [Lp.out,ow.out.ps.nG];omega
  ·skip;have Qj:=hid AX;clear AX;have HR3:=hid hr3;clear hr3;go_wp2_with fail;refine (kN g tv l en iv hF [46] (.inr (by decide +kernel)) _ k' _ _ zK.out.ps (by omega) Qj.out).mono ?_;rintro e w7⟨rfl,nI⟩;have kD:=hid (Dw.out.below nI Dw.out.lt);clear Dw;have o9:=hid (zK.out.below nI);clear zK;clear nI;rcases gG HR3.out with ⟨he8,Oy⟩ | ⟨he8,Oy⟩
   ·skip;have hlt8:=aP he8 (by simp);have HE8:=hid he8;clear he8;have U5:=hid Oy;clear Oy;go_wp2_with fail;refine (jg g tv l en iv hF [91] (.inr (by decide +kernel)) _ k' _ _ o9.out.ps (by omega) HE8.out).mono ?_;rintro e w9⟨rfl,p9,m9⟩;have l9:=hid (o9.out.ps.aU m9 kD.out);clear kD;have vK:=hid (o9.out.step p9 m9);clear o9;clear p9 m9;rcases dW U5.out with ⟨ks10,k10,ns10,ZT,Ch⟩ | ⟨kb10,ZT,rfl⟩
    rotate_left
    ·have HX10:=hid ZT;clear ZT;go_wp2_with fail;refine (C f (by omega) .expr rfl _ (k'+1) _ _ _ vK.out.ps (by omega) (by rw [vK.out.len];omega) (by rw [vK.out.ns];exact nA.out) (by rw [vK.out.ns];exact HX10.out)).mono ?_;rintro e Qv⟨rfl,Vx⟩;unfold aI;go_wp2_with fail;exact⟨rfl,aR.bad rfl ((H.out.low vK.out.mv).trans Vx)⟩
    have HX10:=hid ZT;clear ZT;have E9:=hid Ch;clear Ch U5;go_wp2_with fail;refine (C f (by omega) .expr rfl _ (k'+1) _ _ _ vK.out.ps (by omega) (by rw [vK.out.len];omega) (by rw [vK.out.ns];exact nA.out) (by rw [vK.out.ns];exact HX10.out)).mono ?_;rintro e Qv⟨rfl,ext10,nv10,ha10⟩;have UW:=hid (aW HX10.out (by omega) nA.out (Ids.nil _) (by simp));have gl10:=UW.out.lo;have gf10:=UW.out.few;have ge10:=UW.out.le;have gn10:=UW.out.len;simp only [Job.reads] at gl10
    have o_:=hid (ha10.blk vK.out.ps l9.out (by decide) (by decide));clear l9;have HWF10:=hid UW.out.wf;have vO:=hid (vK.out.trans ha10);clear vK;clear ha10;rcases dO E9.out with ⟨D6,Oq⟩ | ⟨D6,rfl⟩
    rotate_left
    ·have QM:=hid D6;clear D6;go_wp2_with fail;refine (gQ g tv l en iv hF [93] (.inr (by decide +kernel)) _ k10 _ _ vO.out.ps (by omega) QM.out).mono ?_;rintro e Et⟨rfl,Zy⟩;unfold aI;go_wp2_with fail;exact⟨rfl,aR.bad rfl ((H.out.low vO.out.mv).trans (Zy.mono (aaK vO.out.ps.lt)))⟩
    have U4:=hid Oq;clear Oq E9;have hlt11:=aP D6 (by simp);have QM:=hid D6;clear D6;go_wp2_with fail;refine (eZ g tv l en iv hF [93] (.inr (by decide +kernel)) _ k10 _ _ vO.out.ps (by omega) QM.out).mono ?_;rintro e Et⟨rfl,p11,m11⟩;have mF:=hid (vO.out.ps.aU m11 o_.out);clear o_;have oz:=hid (vO.out.step p11 m11);clear vO;clear p11 m11;have fH:=mF.out.cell 0;have fQ:=mF.out.cell 1;have fT:=mF.out.cell 2;have sl0:=mF.out.lt;go_wp2_with fail;refine (gB g tv l en iv ns10.length 23 _ _ _ [] 0 _ [av,hd ks10] _ (k10+1) _ _ (oz.out.alloc _).ps (ug _ _ _) oz.out.len (by omega)).mono ?_;rintro e wQ⟨rfl,uL,p12,m12⟩;have hzz:=oz.out.mv.size;have rM:=hid ((oz.out.alloc _).add p12 m12 (by intro b hb;simp [Value.ownBlock] at hb;omega));clear p12 m12;go_wp2_with fail;have Om:=rM.out.len;have HG5:=hid Om;clear Om
    refine⟨⟨f,(k10+1),_,_,((ns10.length:Nat):Int),rfl,by omega,by omega,by rw [HG5.out];simp only [aaO,aaT];omega,hid (by rw [rM.out.ns];exact U4.out),hid (by rw [rM.out.ns];exact HWF10.out.add (Ids.cons (by have:=HIDN.out;omega) (Ids.cons UW.out.hd (Ids.nil _)))),hid (by rw [HG5.out];simp only [aaO,aaT];omega),hid (by rw [rM.out.ns];exact rM.out)⟩,?_⟩
    rw [Lp.out,rM.out.ps.nG];omega
   ·skip;have HE8:=hid he8;clear he8;have U5:=hid Oy;clear Oy;go_wp2_with fail;refine (kN g tv l en iv hF [91] (.inr (by decide +kernel)) _ k' _ _ o9.out.ps (by omega) HE8.out).mono ?_;rintro e w13⟨rfl,RQ⟩;have vP:=hid (kD.out.below RQ kD.out.lt);clear kD;have qw:=hid (o9.out.below RQ);clear o9;clear RQ;have HST:=hid (aaP U5.out).symm;go_wp2_with fail;go_ret;rw [HST.out];exact aR.ok rfl qw.out
end
end Go.Proofs.YthepmkjggfijoaaGreatDoor
namespace Go.Proofs.YthepmkjggfijoaaGreatDoor
open Go.RowKit Mist
section
variable {g:Nat} {tv:Value} {l:List Tok} {en:Int} {iv:Value} (hF:PF l)
include hF
theorem J3 (m:Nat):(∀ f,f≤m→∀ j,isFn j=true→IC g tv l en iv f j)∧(∀ f,f≤m→∀ e,LC g tv l en iv f e):=by
 induction m with
 | zero =>
  constructor
  ·intro f hf j _ w k xs nv r _ _ _ _ hr;obtain rfl:f=0:=by omega
   rw [run] at hr;cases hr
  ·intro f hf e w k xs nv r _ _ _ _ hr;obtain rfl:f=0:=by omega
   rw [run] at hr;cases hr
 | succ m ih =>
  obtain⟨C,CL⟩:=ih
  have hL:∀ e,LC g tv l en iv (m+1) e:=by
   intro e
   cases e with
   | expr=>exact VZ hF m fun f hf=>C f hf _ rfl
   | put=>exact aan hF m fun f hf=>C f hf _ rfl
   | param=>exact Sc hF m fun f hf=>C f hf _ rfl
  have hI:∀ j,isFn j=true→IC g tv l en iv (m+1) j:=by
   intro j hj
   cases j with
   | expr=>exact Wi hF m C CL
   | post=>exact Wj hF m C CL
   | atom=>exact Wh hF m C CL
   | put=>exact part_put hF m C CL
   | param=>exact Sw hF m C CL
   | typ=>exact part_typ hF m C CL
   | lv v =>
    cases v with
    | or=>exact part_or hF m fun f hf=>C f hf _ rfl
    | and=>exact part_and hF m fun f hf=>C f hf _ rfl
    | not=>exact part_not hF m C CL
    | cmp=>exact part_cmp hF m fun f hf=>C f hf _ rfl
    | sum=>exact part_sum hF m fun f hf=>C f hf _ rfl
    | term=>exact Wm hF m fun f hf=>C f hf _ rfl
    | unary=>exact Sy hF m C CL
   | tail _ _=>cases hj
   | iq _=>cases hj
   | list _=>cases hj
   | eu _ _=>cases hj
  constructor
  ·intro f hf j hj;rcases Nat.lt_or_ge f (m+1) with h | h
   ·exact C f (by omega) j hj
   ·obtain rfl:f=m+1:=by omega
    exact hI j hj
  ·intro f hf e;rcases Nat.lt_or_ge f (m+1) with h | h
   ·exact CL f (by omega) e
   ·obtain rfl:f=m+1:=by omega
    exact hL e
theorem qd (m:Nat)(j:Job)(hj:isFn j=true):IC g tv l en iv m j:=(J3 hF m).1 m (aaJ _) j hj
theorem pW (m:Nat)(e:El):LC g tv l en iv m e:=(J3 hF m).2 m (aaJ _) e
end
end Go.Proofs.YthepmkjggfijoaaGreatDoor
