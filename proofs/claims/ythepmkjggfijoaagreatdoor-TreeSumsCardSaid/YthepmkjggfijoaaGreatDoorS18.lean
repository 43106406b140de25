/-
  A part of the proof.
-/
import Derived.Test.YthepmkjggfijoaaGreatDoorSA
import Derived.Test.YthepmkjggfijoaaGreatDoorS16
set_option linter.all false
set_option maxRecDepth 100000
set_option maxHeartbeats 4000000
open Go.Lib (hid)
namespace Go.Proofs.YthepmkjggfijoaaGreatDoor
open Go.RowKit Mist
attribute [local go_sem] aj aH aS aB ak
section
variable {g:Nat} {tv:Value} {l:List Tok} {en:Int} {iv:Value} (hF:PF l)
include hF
theorem VR (m:Nat)(w:World)(k:Nat)(xs:List NV)(nv:Value)(r:j6)(h:PS g tv l en iv w (k+1) xs nv)(hk:k+1≤l.length)(hn:xs.length≤k)(hw:Wf (aA xs))(hr:gI l en m .zu k (aA xs)=some r) :
  Calls Tryz.prog 184 #[.pointer (some ⟨g,0,none⟩),.agg #[.int .u8 (tg l k).kind,.string (aM (tx l k)),.int .i64 (pl l en k)]] w (aR g tv l en iv w xs nv r):=by
 have C:=fun (f:Nat) (_:f≤m) (j:Job) (hj:isFn j=true)=>qd (g:=g) (tv:=tv) (en:=en) (iv:=iv) hF f j hj
 have CL:=fun (f:Nat) (_:f≤m) (e:El)=>pW (g:=g) (tv:=tv) (en:=en) (iv:=iv) hF f e
 have H:=hid h;clear h;have oU:=hid ((At.refl H.out).alloc (.cells #[.int .u8 (tg l k).kind,.string (aM (tx l k)),.int .i64 (pl l en k)] 68));have zl:=hid (aC.new w 68 #[.int .u8 (tg l k).kind,.string (aM (tx l k)),.int .i64 (pl l en k)]);have HW0:=hid hw;clear hw;have hn0:(aA xs).length≤k:=by rw [aD];exact hn
 have hlen:=hF.len;unfold gI at hr
 have qm:=hid hr;clear hr;go_in
 obtain⟨i0,hi0,hz0,hz1,hz2⟩:=info_parts gN;rcases gH qm.out with ⟨he1,hr1⟩ | ⟨he1,rfl⟩
 rotate_left
 ·have xM:=hid he1;clear he1;go_wp2_with fail;refine (mX g tv l en iv hF _ (k+1) _ _ oU.out.ps (by omega) xM.out).mono ?_;rintro e w1⟨rfl,hb1⟩
  (try unfold aI)
  go_wp2_with fail;exact⟨rfl,aR.bad rfl ((H.out.low oU.out.mv).trans (hb1.mono (aaK oU.out.ps.lt)))⟩
 have HR1:=hid hr1;clear hr1 qm;have hlt1:=fA he1 (by simp);have xM:=hid he1;clear he1;go_wp2_with fail;refine (lC g tv l en iv hF _ (k+1) _ _ oU.out.ps (by omega) xM.out).mono ?_;rintro e w1⟨rfl,p1,m1⟩;have tN:=hid (oU.out.ps.aU m1 zl.out);clear zl;have HA1:=hid (oU.out.step p1 m1);clear oU;clear p1 m1;unfold jl;have kC:=hid (tN.out.alloc (.cells #[.int .u8 (tg l (k+1)).kind,.string (aM (tx l (k+1))),.int .i64 (pl l en (k+1))] 68));clear tN;have og:=hid (aC.new w1 68 #[.int .u8 (tg l (k+1)).kind,.string (aM (tx l (k+1))),.int .i64 (pl l en (k+1))]);have aZ:=hid (HA1.out.alloc (.cells #[.int .u8 (tg l (k+1)).kind,.string (aM (tx l (k+1))),.int .i64 (pl l en (k+1))] 68));clear HA1;rcases dO HR1.out with ⟨he2,hr2⟩ | ⟨he2,rfl⟩
 rotate_left
 ·have HE2:=hid he2;clear he2;go_wp2_with fail;refine (gQ g tv l en iv hF [40] (.inr (by decide +kernel)) _ ((k+1)+1) _ _ aZ.out.ps (by omega) HE2.out).mono ?_;rintro e w2⟨rfl,hb2⟩
  (try unfold aI)
  go_wp2_with fail;exact⟨rfl,aR.bad rfl ((H.out.low aZ.out.mv).trans (hb2.mono (aaK aZ.out.ps.lt)))⟩
 have HR2:=hid hr2;clear hr2 HR1;have hlt2:=aP he2 (by simp);have HE2:=hid he2;clear he2;go_wp2_with fail;refine (eZ g tv l en iv hF [40] (.inr (by decide +kernel)) _ ((k+1)+1) _ _ aZ.out.ps (by omega) HE2.out).mono ?_;rintro e w2⟨rfl,p2,m2⟩;have eY:=hid (aZ.out.ps.aU m2 kC.out);have l8:=hid (aZ.out.ps.aU m2 og.out);clear kC og;have HA2:=hid (aZ.out.step p2 m2);clear aZ;clear p2 m2;rcases gG HR2.out with ⟨AX,hr3⟩ | ⟨AX,hr3⟩
 ·skip;have hlt3:=aP AX (by simp);have Qj:=hid AX;clear AX;have HR3:=hid hr3;clear hr3;go_wp2_with fail;refine (yw [41] (.inr (by decide +kernel)) g tv l en iv _ (((k+1)+1)+1) _ _ (HA2.out.alloc _).ps (by omega) hlen hF.kind _ _ 9 (0,0) (heap_alloc_new _ _) true (by simp [Qj.out])).mono ?_;rintro e w4⟨rfl,hb4⟩;have iw:=hid ((eY.out.alloc (.cells #[.string (aM [41])] 9)).below hb4 (eY.out.alloc (.cells #[.string (aM [41])] 9)).lt);have xL:=hid ((l8.out.alloc (.cells #[.string (aM [41])] 9)).below hb4 (l8.out.alloc (.cells #[.string (aM [41])] 9)).lt);clear eY l8;have fq:=hid ((HA2.out.alloc (.cells #[.string (aM [41])] 9)).below hb4);clear HA2;clear hb4;have HVN:=hid (show w4.ownsRow w.heap.size 3 1 (.slice none 0 0) 0 (intCells []) from World.ownsRow_nil _ _ _ _);have HQN:=hid (show ([]:List Int).length=0 from rfl);have YB:=hid (ne_nil (ext:=[]));have Ea:=HR3.out;unfold mg at Ea;have HRU5:=hid Ea;clear Ea
  rcases dO HRU5.out with ⟨VI,Ul⟩ | ⟨VI,rfl⟩
  rotate_left
  ·have HE6:=hid VI;clear VI;go_wp2_with fail;refine (gQ g tv l en iv hF [41] (.inr (by decide +kernel)) _ (((k+1)+1)+1) _ _ fq.out.ps (by omega) HE6.out).mono ?_;rintro e w6⟨rfl,hb6⟩
   (try unfold aI)
   go_wp2_with fail;exact⟨rfl,aR.bad rfl ((H.out.low fq.out.mv).trans (hb6.mono (aaK fq.out.ps.lt)))⟩
  have Lu:=hid Ul;clear Ul HRU5;have hlt6:=aP VI (by simp);have HE6:=hid VI;clear VI;go_wp2_with fail;refine (eZ g tv l en iv hF [41] (.inr (by decide +kernel)) _ (((k+1)+1)+1) _ _ fq.out.ps (by omega) HE6.out).mono ?_;rintro e w6⟨rfl,p6,m6⟩;have n_:=hid (fq.out.ps.aU m6 iw.out);have HB6_1:=hid (fq.out.ps.aU m6 xL.out);clear iw xL;have HV6_0:=hid (fq.out.ps.iI m6 HVN.out (by decide) (by decide));clear HVN;have ow:=hid (fq.out.step p6 m6);clear fq;clear p6 m6;rcases dO Lu.out with ⟨D9,ZP⟩ | ⟨D9,rfl⟩
  rotate_left
  ·have Qk:=hid D9;clear D9;go_wp2_with fail;refine (gQ g tv l en iv hF [58] (.inr (by decide +kernel)) _ ((((k+1)+1)+1)+1) _ _ ow.out.ps (by omega) Qk.out).mono ?_;rintro e w7⟨rfl,nI⟩
   (try unfold aI)
   go_wp2_with fail;exact⟨rfl,aR.bad rfl ((H.out.low ow.out.mv).trans (nI.mono (aaK ow.out.ps.lt)))⟩
  have HR7:=hid ZP;clear ZP Lu;have hlt7:=aP D9 (by simp);have Qk:=hid D9;clear D9;go_wp2_with fail;refine (eZ g tv l en iv hF [58] (.inr (by decide +kernel)) _ ((((k+1)+1)+1)+1) _ _ ow.out.ps (by omega) Qk.out).mono ?_;rintro e w7⟨rfl,p7,m7⟩;have kD:=hid (ow.out.ps.aU m7 n_.out);have HB7_1:=hid (ow.out.ps.aU m7 HB6_1.out);clear n_ HB6_1;have YT:=hid (ow.out.ps.iI m7 HV6_0.out (by decide) (by decide));clear HV6_0;have o9:=hid (ow.out.step p7 m7);clear ow;clear p7 m7;rcases dW HR7.out with ⟨Ib,k8,ns8,EG,Oy⟩ | ⟨kb8,EG,rfl⟩
  rotate_left
  ·have LJ:=hid EG;clear EG;go_wp2_with fail;refine (C m (aaJ _) .typ rfl _ (((((k+1)+1)+1)+1)+1) _ _ _ o9.out.ps (by omega) (by rw [o9.out.len];omega) (by rw [o9.out.ns];exact HW0.out) (by rw [o9.out.ns];exact LJ.out)).mono ?_;rintro e w8⟨rfl,tZ⟩
   (try unfold aI)
   go_wp2_with fail;exact⟨rfl,aR.bad rfl ((H.out.low o9.out.mv).trans tZ)⟩
  have LJ:=hid EG;clear EG;have U5:=hid Oy;clear Oy HR7;go_wp2_with fail;refine (C m (aaJ _) .typ rfl _ (((((k+1)+1)+1)+1)+1) _ _ _ o9.out.ps (by omega) (by rw [o9.out.len];omega) (by rw [o9.out.ns];exact HW0.out) (by rw [o9.out.ns];exact LJ.out)).mono ?_;rintro e w8⟨rfl,ext8,V_,Kq⟩;have Je:=hid (aW LJ.out (by omega) HW0.out (Ids.nil _) (by simp));have gl8:=Je.out.lo;have gf8:=Je.out.few;have ge8:=Je.out.le;have gn8:=Je.out.len;simp only [Job.reads] at gl8
  have uO:=hid (Kq.blk o9.out.ps kD.out (by decide) (by decide));have HB8_1:=hid (Kq.blk o9.out.ps HB7_1.out (by decide) (by decide));clear kD HB7_1;have Yz:=hid (uj YB.out Kq.fresh (fun b hb=>(YT.out.lt b hb).2));clear YB;have Bw:=hid (o9.out.ps.iI Kq.mv YT.out (by decide) (by decide));clear YT;have Nz:=hid Je.out.wf;have zL:=hid (o9.out.trans Kq);clear o9;clear Kq
  go_wp2_with (at_builtin
               refine wpList_append_lies _ rfl (.tmp 22) (.tmp 25) 24 rfl w.heap.size 3 i0 _ 1 8 Tryz.underlying24 hi0 hz0 hz1 hz2 rfl (by decide) _ 0 (intCells []) rfl
                 (Bw.out.alloc _) ⟨w8.heap.size,0,none⟩ 1 1 [.int .i64 (hd Ib)] rfl rfl (iP _ _ _) (by intro u hu;simp at hu;subst hu;rfl) (by omega) (by simp only [maxLen];omega) (by omega) (by have:=zL.out.mv.size;simp;omega) (w8.heap.size+1) (by simp) ?_
               intro gg9 Zg w9 Oo hg9 Zx hgl9)
  have YA:=hid (qG zL.out.ps Yz.out Zx (0+1) Zg);clear Zx;have l9:=hid (fZ uO.out Bw.out hg9 (by decide));have Nq:=hid (fZ HB8_1.out Bw.out hg9 (by decide));have vK:=hid ((zL.out.alloc (.cells #[.int .i64 (hd Ib)] 3)).grown H.out Bw.out (by decide) hg9 Yz.out);have HV9:=hid (show w9.ownsRow w.heap.size 3 1 (.slice (some ⟨gg9,0,none⟩) (0+1) Zg) (0+1) (intCells ([] ++ [hd Ib])) by rw [eT];exact Oo);clear Oo;have HQ9:=hid (show ([] ++ [hd Ib]).length=0+1 by rw [aaO,HQN.out];rfl);clear hg9 hgl9;rcases gG U5.out with ⟨D5,Ch⟩ | ⟨D5,Ch⟩
  ·skip;have hlt10:=aP D5 (by simp);have QK:=hid D5;clear D5;have E9:=hid Ch;clear Ch;go_wp2_with fail;refine (jg g tv l en iv hF [117,112,116,111] (.inl (by decide +kernel)) _ k8 _ _ vK.out.ps (by omega) QK.out).mono ?_;rintro e Et⟨rfl,p11,m11⟩;have mF:=hid (vK.out.ps.aU m11 l9.out);have Qz:=hid (vK.out.ps.aU m11 Nq.out);clear l9 Nq;have YI:=hid (vK.out.ps.iI m11 HV9.out (by decide) (by decide));clear HV9;have oz:=hid (vK.out.step p11 m11);clear vK;clear p11 m11;go_wp2_with fail;refine (h_ g tv l en iv _ (k8+1) _ _ oz.out.ps (by omega) hlen).mono ?_;rintro e wQ⟨rfl,G6⟩;have oD:=hid (mF.out.below G6 mF.out.lt);have XT:=hid (Qz.out.below G6 Qz.out.lt);clear mF Qz;have YJ:=hid (own_below YI.out G6);clear YI;have mo:=hid (oz.out.below G6);clear oz;clear G6;rcases gG E9.out with ⟨pV,yh⟩ | ⟨pV,yh⟩
   ·skip;have ZG:=aP pV (by simp);have zM:=hid pV;clear pV;have zN:=hid yh;clear yh;have q0:(tx l (k8+1) == [48])=true:=UK _ [48] zM.out;have tf1:=mQ;obtain rfl:j6.bad (k8+1)=r:=aaP zN.out;go_wp2_with fail;refine (sJ g tv l en iv _ (k8+1) _ _ mo.out.ps (by omega) hlen).mono ?_;rintro e wq⟨rfl,hbq⟩
    (try unfold aI)
    go_wp2_with fail;exact⟨rfl,aR.bad rfl ((H.out.low mo.out.mv).trans (hbq.mono (aaK mo.out.ps.lt)))⟩
   ·skip;have zM:=hid pV;clear pV;have zN:=hid yh;clear yh;have q0:(tx l (k8+1) == [48])=false:=KX _ [48] zM.out;have tf1:=mQ;go_wp2_with fail;clear q0;rcases gH zN.out with ⟨uY,G8⟩ | ⟨uY,rfl⟩
    rotate_left
    ·have F4:=hid uY;clear uY;refine (vC g tv l en iv hF _ (k8+1) _ _ mo.out.ps (by omega) F4.out).mono ?_;rintro e Tx⟨rfl,RU⟩
     (try unfold aI)
     go_wp2_with fail;exact⟨rfl,aR.bad rfl ((H.out.low mo.out.mv).trans (RU.mono (aaK mo.out.ps.lt)))⟩
    have Jq:=hid G8;clear G8 zN;have hlt14:=fA uY (by simp);have F4:=hid uY;clear uY;refine (pY g tv l en iv hF _ (k8+1) _ _ mo.out.ps (by omega) F4.out).mono ?_;rintro e Tx⟨rfl,p14,m14⟩;have oF:=hid (mo.out.ps.aU m14 oD.out);have FU:=hid (mo.out.ps.aU m14 XT.out);clear oD XT;have YK:=hid (mo.out.ps.iI m14 YJ.out (by decide) (by decide));clear YJ;have jP:=hid (mo.out.step p14 m14);clear mo;clear p14 m14;unfold jl;have Ea:=Jq.out;unfold kU at Ea;have HRU15:=hid Ea;clear Ea
    rcases dO HRU15.out with ⟨uZ,Ou⟩ | ⟨uZ,rfl⟩
    rotate_left
    ·have F5:=hid uZ;clear uZ;go_wp2_with fail;refine (gQ g tv l en iv hF [61] (.inr (by decide +kernel)) _ ((k8+1)+1) _ _ jP.out.ps (by omega) F5.out).mono ?_;rintro e w16⟨rfl,Zz⟩
     (try unfold aI)
     go_wp2_with fail;exact⟨rfl,aR.bad rfl ((H.out.low jP.out.mv).trans (Zz.mono (aaK jP.out.ps.lt)))⟩
    have Q0:=hid Ou;clear Ou HRU15;have hlt16:=aP uZ (by simp);have F5:=hid uZ;clear uZ;go_wp2_with fail;refine (eZ g tv l en iv hF [61] (.inr (by decide +kernel)) _ ((k8+1)+1) _ _ jP.out.ps (by omega) F5.out).mono ?_;rintro e w16⟨rfl,p16,m16⟩;have pq:=hid (jP.out.ps.aU m16 oF.out);have xK:=hid (jP.out.ps.aU m16 FU.out);clear oF FU;have Q9:=hid (jP.out.ps.iI m16 YK.out (by decide) (by decide));clear YK;have oC:=hid (jP.out.step p16 m16);clear jP;clear p16 m16;rcases dW Q0.out with ⟨OM,k17,ns17,He,ZM⟩ | ⟨kb17,He,rfl⟩
    rotate_left
    ·have LH:=hid He;clear He;go_wp2_with fail;refine (C m (aaJ _) .expr rfl _ (((k8+1)+1)+1) _ _ _ oC.out.ps (by omega) (by rw [oC.out.len];omega) (by rw [oC.out.ns];exact Nz.out) (by rw [oC.out.ns];exact LH.out)).mono ?_;rintro e w17⟨rfl,zW⟩
     (try unfold aI)
     go_wp2_with fail;exact⟨rfl,aR.bad rfl ((H.out.low oC.out.mv).trans zW)⟩
    have LH:=hid He;clear He;have HR17:=hid ZM;clear ZM Q0;go_wp2_with fail;refine (C m (aaJ _) .expr rfl _ (((k8+1)+1)+1) _ _ _ oC.out.ps (by omega) (by rw [oC.out.len];omega) (by rw [oC.out.ns];exact Nz.out) (by rw [oC.out.ns];exact LH.out)).mono ?_;rintro e w17⟨rfl,ext17,nv17,G5⟩;have Jl:=hid (aW LH.out (by omega) Nz.out (Ids.nil _) (by simp));have gl17:=Jl.out.lo;have gf17:=Jl.out.few;have ge17:=Jl.out.le;have gn17:=Jl.out.len;simp only [Job.reads] at gl17
    have jQ:=hid (G5.blk oC.out.ps pq.out (by decide) (by decide));have XU:=hid (G5.blk oC.out.ps xK.out (by decide) (by decide));clear pq xK;have HNE17:=hid (uj YA.out G5.fresh (fun b hb=>(Q9.out.lt b hb).2));clear YA;have Dy:=hid (oC.out.ps.iI G5.mv Q9.out (by decide) (by decide));clear Q9;have HWF17:=hid Jl.out.wf;have nT:=hid (oC.out.trans G5);clear oC;clear G5
    go_wp2_with (at_builtin
                 refine wpList_append_lies _ rfl (.tmp 42) (.tmp 45) 24 rfl w.heap.size 3 i0 _ 1 8 Tryz.underlying24 hi0 hz0 hz1 hz2 rfl (by decide) _ (0+1) (intCells ([] ++ [hd Ib])) rfl
                   (Dy.out.alloc _) ⟨w17.heap.size,0,none⟩ 1 1 [.int .i64 (hd OM)] rfl rfl (iP _ _ _) (by intro u hu;simp at hu;subst hu;rfl) (by omega) (by simp only [maxLen];omega) (by omega) (by have:=nT.out.mv.size;simp;omega) (w17.heap.size+1) (by simp) ?_
                 intro gg18 cap18 w18 ZH VK hat18 hgl18;have FI:=fZ jQ.out Dy.out VK (by decide);have UE:=FI.cell 0;have UF:=FI.cell 1;have UG:=FI.cell 2;have szl0:=FI.lt;have Zf:=fZ XU.out Dy.out VK (by decide);have sz1_1:=Zf.cell 1;have szl1:=Zf.lt)
    have HNE18:=hid (qG nT.out.ps HNE17.out hat18 ((0+1)+1) cap18);clear hat18;have K_:=hid (fZ jQ.out Dy.out VK (by decide));have XV:=hid (fZ XU.out Dy.out VK (by decide));have EX:=hid ((nT.out.alloc (.cells #[.int .i64 (hd OM)] 3)).grown H.out Dy.out (by decide) VK HNE17.out);have HV18:=hid (show w18.ownsRow w.heap.size 3 1 (.slice (some ⟨gg18,0,none⟩) ((0+1)+1) cap18) ((0+1)+1) (intCells (([] ++ [hd Ib]) ++ [hd OM])) by rw [eT];exact ZH);clear ZH;have HQ18:=hid (show (([] ++ [hd Ib]) ++ [hd OM]).length=(0+1)+1 by rw [aaO,HQ9.out];rfl);clear VK hgl18;obtain rfl:=dV HR17.out;have fH:=K_.out.cell 0;have fQ:=K_.out.cell 1;have fT:=K_.out.cell 2;have sl0:=K_.out.lt;have rD:=XV.out.cell 1;have sl1:=XV.out.lt;refine (gB g tv l en iv ns17.length 42 _ _ _ (tx l (k+1)) ((numOf (tx l (k8+1)):Nat):Int) _ (([] ++ [hd Ib]) ++ [hd OM]) _ k17 _ _ EX.out.ps (Hy HQ18.out HV18.out) EX.out.len (by omega)).mono ?_;rintro e w19⟨rfl,nv19,p19,m19⟩;have rM:=hid (EX.out.add p19 m19 (fun b hb=>(HV18.out.lt b hb).1));clear p19 m19;go_wp2_with fail;go_ret;exact aR.ok rfl rM.out
  ·skip;have QK:=hid D5;clear D5;have E9:=hid Ch;clear Ch;go_wp2_with fail;refine (kN g tv l en iv hF [117,112,116,111] (.inl (by decide +kernel)) _ k8 _ _ vK.out.ps (by omega) QK.out).mono ?_;rintro e w20⟨rfl,RX⟩;have FV:=hid (l9.out.below RX l9.out.lt);have XW:=hid (Nq.out.below RX Nq.out.lt);clear l9 Nq;have YM:=hid (own_below HV9.out RX);clear HV9;have xu:=hid (vK.out.below RX);clear vK;clear RX;have Ea:=E9.out;unfold kU at Ea;have HRU21:=hid Ea;clear Ea
   rcases dO HRU21.out with ⟨Mh,Ox⟩ | ⟨Mh,rfl⟩
   rotate_left
   ·have HE22:=hid Mh;clear Mh;go_wp2_with fail;refine (gQ g tv l en iv hF [61] (.inr (by decide +kernel)) _ k8 _ _ xu.out.ps (by omega) HE22.out).mono ?_;rintro e w22⟨rfl,hb22⟩
    (try unfold aI)
    go_wp2_with fail;exact⟨rfl,aR.bad rfl ((H.out.low xu.out.mv).trans (hb22.mono (aaK xu.out.ps.lt)))⟩
   have HR22:=hid Ox;clear Ox HRU21;have hlt22:=aP Mh (by simp);have HE22:=hid Mh;clear Mh;go_wp2_with fail;refine (eZ g tv l en iv hF [61] (.inr (by decide +kernel)) _ k8 _ _ xu.out.ps (by omega) HE22.out).mono ?_;rintro e w22⟨rfl,p22,m22⟩;have XY:=hid (xu.out.ps.aU m22 FV.out);have XZ:=hid (xu.out.ps.aU m22 XW.out);clear FV XW;have Q_:=hid (xu.out.ps.iI m22 YM.out (by decide) (by decide));clear YM;have A9:=hid (xu.out.step p22 m22);clear xu;clear p22 m22;rcases dW HR22.out with ⟨aai,k23,ns23,ZX,hr23⟩ | ⟨kb23,ZX,rfl⟩
   rotate_left
   ·have HX23:=hid ZX;clear ZX;go_wp2_with fail;refine (C m (aaJ _) .expr rfl _ (k8+1) _ _ _ A9.out.ps (by omega) (by rw [A9.out.len];omega) (by rw [A9.out.ns];exact Nz.out) (by rw [A9.out.ns];exact HX23.out)).mono ?_;rintro e w23⟨rfl,ZA⟩
    (try unfold aI)
    go_wp2_with fail;exact⟨rfl,aR.bad rfl ((H.out.low A9.out.mv).trans ZA)⟩
   have HX23:=hid ZX;clear ZX;have HR23:=hid hr23;clear hr23 HR22;go_wp2_with fail;refine (C m (aaJ _) .expr rfl _ (k8+1) _ _ _ A9.out.ps (by omega) (by rw [A9.out.len];omega) (by rw [A9.out.ns];exact Nz.out) (by rw [A9.out.ns];exact HX23.out)).mono ?_;rintro e w23⟨rfl,ext23,nv23,Vs⟩;have XJ:=hid (aW HX23.out (by omega) Nz.out (Ids.nil _) (by simp));have gl23:=XJ.out.lo;have gf23:=XJ.out.few;have ge23:=XJ.out.le;have gn23:=XJ.out.len;simp only [Job.reads] at gl23
   have FW:=hid (Vs.blk A9.out.ps XY.out (by decide) (by decide));have X0:=hid (Vs.blk A9.out.ps XZ.out (by decide) (by decide));clear XY XZ;have HNE23:=hid (uj YA.out Vs.fresh (fun b hb=>(Q_.out.lt b hb).2));clear YA;have Dz:=hid (A9.out.ps.iI Vs.mv Q_.out (by decide) (by decide));clear Q_;have HWF23:=hid XJ.out.wf;have FT:=hid (A9.out.trans Vs);clear A9;clear Vs
   go_wp2_with (at_builtin
                refine wpList_append_lies _ rfl (.tmp 42) (.tmp 45) 24 rfl w.heap.size 3 i0 _ 1 8 Tryz.underlying24 hi0 hz0 hz1 hz2 rfl (by decide) _ (0+1) (intCells ([] ++ [hd Ib])) rfl
                  (Dz.out.alloc _) ⟨w23.heap.size,0,none⟩ 1 1 [.int .i64 (hd aai)] rfl rfl (iP _ _ _) (by intro u hu;simp at hu;subst hu;rfl) (by omega) (by simp only [maxLen];omega) (by omega) (by have:=FT.out.mv.size;simp;omega) (w23.heap.size+1) (by simp) ?_
                intro gg24 cap24 w24 ZI VL hat24 hgl24;have FI:=fZ FW.out Dz.out VL (by decide);have UE:=FI.cell 0;have UF:=FI.cell 1;have UG:=FI.cell 2;have szl0:=FI.lt;have Zf:=fZ X0.out Dz.out VL (by decide);have sz1_1:=Zf.cell 1;have szl1:=Zf.lt)
   have HNE24:=hid (qG FT.out.ps HNE23.out hat24 ((0+1)+1) cap24);clear hat24;have FX:=hid (fZ FW.out Dz.out VL (by decide));have X3:=hid (fZ X0.out Dz.out VL (by decide));have Jo:=hid ((FT.out.alloc (.cells #[.int .i64 (hd aai)] 3)).grown H.out Dz.out (by decide) VL HNE23.out);have HV24:=hid (show w24.ownsRow w.heap.size 3 1 (.slice (some ⟨gg24,0,none⟩) ((0+1)+1) cap24) ((0+1)+1) (intCells (([] ++ [hd Ib]) ++ [hd aai])) by rw [eT];exact ZI);clear ZI;have HQ24:=hid (show (([] ++ [hd Ib]) ++ [hd aai]).length=(0+1)+1 by rw [aaO,HQ9.out];rfl);clear VL hgl24;obtain rfl:=dV HR23.out;have fH:=FX.out.cell 0;have fQ:=FX.out.cell 1;have fT:=FX.out.cell 2;have sl0:=FX.out.lt;have rD:=X3.out.cell 1;have sl1:=X3.out.lt;refine (gB g tv l en iv ns23.length 42 _ _ _ (tx l (k+1)) 0 _ (([] ++ [hd Ib]) ++ [hd aai]) _ k23 _ _ Jo.out.ps (Hy HQ24.out HV24.out) Jo.out.len (by omega)).mono ?_;rintro e w25⟨rfl,nv25,p25,m25⟩;have rM:=hid (Jo.out.add p25 m25 (fun b hb=>(HV24.out.lt b hb).1));clear p25 m25;go_wp2_with fail;go_ret;exact aR.ok rfl rM.out
 ·skip;have Qj:=hid AX;clear AX;have HR3:=hid hr3;clear hr3;go_wp2_with fail;refine (yw [41] (.inr (by decide +kernel)) g tv l en iv _ (((k+1)+1)+1) _ _ (HA2.out.alloc _).ps (by omega) hlen hF.kind _ _ 9 (0,0) (heap_alloc_new _ _) false (by simp [Qj.out])).mono ?_;rintro e w26⟨rfl,hb26⟩;have X4:=hid ((eY.out.alloc (.cells #[.string (aM [41])] 9)).below hb26 (eY.out.alloc (.cells #[.string (aM [41])] 9)).lt);have X5:=hid ((l8.out.alloc (.cells #[.string (aM [41])] 9)).below hb26 (l8.out.alloc (.cells #[.string (aM [41])] 9)).lt);clear eY l8;have A_:=hid ((HA2.out.alloc (.cells #[.string (aM [41])] 9)).below hb26);clear HA2;clear hb26;rcases dW HR3.out with ⟨Fh,k27,ns27,hx27,hr27⟩ | ⟨kb27,hx27,rfl⟩
  rotate_left
  ·have YV:=hid hx27;clear hx27;go_wp2_with fail;refine (CL m (aaJ _) .param _ (((k+1)+1)+1) _ _ _ A_.out.ps (by omega) (by rw [A_.out.len];omega) (by rw [A_.out.ns];exact HW0.out) (by rw [A_.out.ns];exact YV.out)).mono ?_;rintro e w27⟨rfl,hb27⟩
   (try unfold aI)
   go_wp2_with fail;exact⟨rfl,aR.bad rfl ((H.out.low A_.out.mv).trans hb27)⟩
  have YV:=hid hx27;clear hx27;have HR27:=hid hr27;clear hr27 HR3;go_wp2_with fail;refine (CL m (aaJ _) .param _ (((k+1)+1)+1) _ _ _ A_.out.ps (by omega) (by rw [A_.out.len];omega) (by rw [A_.out.ns];exact HW0.out) (by rw [A_.out.ns];exact YV.out)).mono ?_;rintro e w27⟨v27,ext27,nv27,rfl,ho27,ha27,hd27⟩;have HV27:=hid (kI (base':=w.heap.size) ho27 (fun b hb=>Nat.le_trans A_.out.mv.size (ho27.lt b hb).1));clear ho27;have XK:=hid (aW YV.out (by omega) HW0.out (Ids.nil _) (by simp));have gl27:=XK.out.lo;have gf27:=XK.out.few;have ge27:=XK.out.le;have gn27:=XK.out.len;simp only [Job.reads] at gl27
  have X6:=hid (ha27.blk A_.out.ps X4.out (by decide) (by decide));have X7:=hid (ha27.blk A_.out.ps X5.out (by decide) (by decide));clear X4 X5;have YU:=hid XK.out.wf;have K5:=hid (A_.out.trans ha27);clear A_;clear ha27;have HNE27:=hid (show ∀ x ∈ [] ++ ext27,x.2.ownBlock=none∨x.2.ownBlock ≠ v27.ownBlock from hd27);clear hd27;have hqb27:=aam (by omega) HW0.out YV.out;obtain⟨SC,hq27⟩:∃ q,q=Fh.length:=⟨_,rfl⟩;rw [← hq27] at HV27 hqb27
  have HQ27:=hid hq27.symm;clear hq27;obtain⟨A27,c27,rfl⟩:=dh HV27.out;have Ea:=HR27.out;unfold mg at Ea;have HRU28:=hid Ea;clear Ea
  rcases dO HRU28.out with ⟨VA,hr29⟩ | ⟨VA,rfl⟩
  rotate_left
  ·have HE29:=hid VA;clear VA;go_wp2_with fail;refine (gQ g tv l en iv hF [41] (.inr (by decide +kernel)) _ k27 _ _ K5.out.ps (by omega) HE29.out).mono ?_;rintro e w29⟨rfl,hb29⟩
   (try unfold aI)
   go_wp2_with fail;exact⟨rfl,aR.bad rfl ((H.out.low K5.out.mv).trans (hb29.mono (aaK K5.out.ps.lt)))⟩
  have HR29:=hid hr29;clear hr29 HRU28;have hlt29:=aP VA (by simp);have HE29:=hid VA;clear VA;go_wp2_with fail;refine (eZ g tv l en iv hF [41] (.inr (by decide +kernel)) _ k27 _ _ K5.out.ps (by omega) HE29.out).mono ?_;rintro e w29⟨rfl,p29,m29⟩;have X8:=hid (K5.out.ps.aU m29 X6.out);have X9:=hid (K5.out.ps.aU m29 X7.out);clear X6 X7;have YO:=hid (K5.out.ps.iI m29 HV27.out (by decide) (by decide));clear HV27;have K6:=hid (K5.out.step p29 m29);clear K5;clear p29 m29;rcases dO HR29.out with ⟨VB,hr30⟩ | ⟨VB,rfl⟩
  rotate_left
  ·have HE30:=hid VB;clear VB;go_wp2_with fail;refine (gQ g tv l en iv hF [58] (.inr (by decide +kernel)) _ (k27+1) _ _ K6.out.ps (by omega) HE30.out).mono ?_;rintro e w30⟨rfl,hb30⟩
   (try unfold aI)
   go_wp2_with fail;exact⟨rfl,aR.bad rfl ((H.out.low K6.out.mv).trans (hb30.mono (aaK K6.out.ps.lt)))⟩
  have HR30:=hid hr30;clear hr30 HR29;have hlt30:=aP VB (by simp);have HE30:=hid VB;clear VB;go_wp2_with fail;refine (eZ g tv l en iv hF [58] (.inr (by decide +kernel)) _ (k27+1) _ _ K6.out.ps (by omega) HE30.out).mono ?_;rintro e w30⟨rfl,p30,m30⟩;have X_:=hid (K6.out.ps.aU m30 X8.out);have Ya:=hid (K6.out.ps.aU m30 X9.out);clear X8 X9;have Ra:=hid (K6.out.ps.iI m30 YO.out (by decide) (by decide));clear YO;have Ba:=hid (K6.out.step p30 m30);clear K6;clear p30 m30;rcases dW HR30.out with ⟨Fj,Nj,ns31,hx31,hr31⟩ | ⟨kb31,hx31,rfl⟩
  rotate_left
  ·have HX31:=hid hx31;clear hx31;go_wp2_with fail;refine (C m (aaJ _) .typ rfl _ ((k27+1)+1) _ _ _ Ba.out.ps (by omega) (by rw [Ba.out.len];omega) (by rw [Ba.out.ns];exact YU.out) (by rw [Ba.out.ns];exact HX31.out)).mono ?_;rintro e w31⟨rfl,hb31⟩
   (try unfold aI)
   go_wp2_with fail;exact⟨rfl,aR.bad rfl ((H.out.low Ba.out.mv).trans hb31)⟩
  have HX31:=hid hx31;clear hx31;have HR31:=hid hr31;clear hr31 HR30;go_wp2_with fail;refine (C m (aaJ _) .typ rfl _ ((k27+1)+1) _ _ _ Ba.out.ps (by omega) (by rw [Ba.out.len];omega) (by rw [Ba.out.ns];exact YU.out) (by rw [Ba.out.ns];exact HX31.out)).mono ?_;rintro e w31⟨rfl,ext31,nv31,Vt⟩;have XL:=hid (aW HX31.out (by omega) YU.out (Ids.nil _) (by simp));have gl31:=XL.out.lo;have gf31:=XL.out.few;have ge31:=XL.out.le;have gn31:=XL.out.len;simp only [Job.reads] at gl31
  have HB31_0:=hid (Vt.blk Ba.out.ps X_.out (by decide) (by decide));have HB31_1:=hid (Vt.blk Ba.out.ps Ya.out (by decide) (by decide));clear X_ Ya;have HNE31:=hid (uj HNE27.out Vt.fresh (fun b hb=>(Ra.out.lt b hb).2));clear HNE27;have LB:=hid (Ba.out.ps.iI Vt.mv Ra.out (by decide) (by decide));clear Ra;have JX:=hid XL.out.wf;have HA31:=hid (Ba.out.trans Vt);clear Ba;clear Vt
  go_wp2_with (at_builtin
               refine wpList_append_lies _ rfl (.tmp 22) (.tmp 25) 24 rfl w.heap.size 3 i0 _ 1 8 Tryz.underlying24 hi0 hz0 hz1 hz2 rfl (by decide) _ SC (intCells Fh) rfl
                 (LB.out.alloc _) ⟨w31.heap.size,0,none⟩ 1 1 [.int .i64 (hd Fj)] rfl rfl (iP _ _ _) (by intro u hu;simp at hu;subst hu;rfl) (by omega) (by simp only [maxLen];omega) (by omega) (by have:=HA31.out.mv.size;simp;omega) (w31.heap.size+1) (by simp) ?_
               intro gg32 cap32 w32 ZJ hg32 hat32 hgl32)
  have TP:=hid (qG HA31.out.ps HNE31.out hat32 (SC+1) cap32);clear hat32;have FY:=hid (fZ HB31_0.out LB.out hg32 (by decide));have FZ:=hid (fZ HB31_1.out LB.out hg32 (by decide));have K7:=hid ((HA31.out.alloc (.cells #[.int .i64 (hd Fj)] 3)).grown H.out LB.out (by decide) hg32 HNE31.out);have HV32:=hid (show w32.ownsRow w.heap.size 3 1 (.slice (some ⟨gg32,0,none⟩) (SC+1) cap32) (SC+1) (intCells (Fh ++ [hd Fj])) by rw [eT];exact ZJ);clear ZJ;have HQ32:=hid (show (Fh ++ [hd Fj]).length=SC+1 by rw [aaO,HQ27.out];rfl);clear hg32 hgl32;rcases gG HR31.out with ⟨VD,ZN⟩ | ⟨VD,ZN⟩
  ·skip;have hlt33:=aP VD (by simp);have HE33:=hid VD;clear VD;have HR33:=hid ZN;clear ZN;go_wp2_with fail;refine (jg g tv l en iv hF [117,112,116,111] (.inl (by decide +kernel)) _ Nj _ _ K7.out.ps (by omega) HE33.out).mono ?_;rintro e w34⟨rfl,p34,m34⟩;have QF:=hid (K7.out.ps.aU m34 FY.out);have QG:=hid (K7.out.ps.aU m34 FZ.out);clear FY FZ;have YP:=hid (K7.out.ps.iI m34 HV32.out (by decide) (by decide));clear HV32;have iT:=hid (K7.out.step p34 m34);clear K7;clear p34 m34;go_wp2_with fail;refine (h_ g tv l en iv _ (Nj+1) _ _ iT.out.ps (by omega) hlen).mono ?_;rintro e UR⟨rfl,ZB⟩;have Yb:=hid (QF.out.below ZB QF.out.lt);have Yc:=hid (QG.out.below ZB QG.out.lt);clear QF QG;have YQ:=hid (own_below YP.out ZB);clear YP;have EY:=hid (iT.out.below ZB);clear iT;clear ZB;rcases gG HR33.out with ⟨VE,ZO⟩ | ⟨VE,ZO⟩
   ·skip;have hlt36:=aP VE (by simp);have HE36:=hid VE;clear VE;have HR36:=hid ZO;clear ZO;have q0:(tx l (Nj+1) == [48])=true:=UK _ [48] HE36.out;have tf1:=mQ;obtain rfl:j6.bad (Nj+1)=r:=aaP HR36.out;go_wp2_with fail;refine (sJ g tv l en iv _ (Nj+1) _ _ EY.out.ps (by omega) hlen).mono ?_;rintro e wq⟨rfl,hbq⟩
    (try unfold aI)
    go_wp2_with fail;exact⟨rfl,aR.bad rfl ((H.out.low EY.out.mv).trans (hbq.mono (aaK EY.out.ps.lt)))⟩
   ·skip;have HE36:=hid VE;clear VE;have HR36:=hid ZO;clear ZO;have q0:(tx l (Nj+1) == [48])=false:=KX _ [48] HE36.out;have tf1:=mQ;go_wp2_with fail;clear q0;rcases gH HR36.out with ⟨VF,hr37⟩ | ⟨VF,rfl⟩
    rotate_left
    ·have HE37:=hid VF;clear VF;refine (vC g tv l en iv hF _ (Nj+1) _ _ EY.out.ps (by omega) HE37.out).mono ?_;rintro e w37⟨rfl,hb37⟩
     (try unfold aI)
     go_wp2_with fail;exact⟨rfl,aR.bad rfl ((H.out.low EY.out.mv).trans (hb37.mono (aaK EY.out.ps.lt)))⟩
    have HR37:=hid hr37;clear hr37 HR36;have hlt37:=fA VF (by simp);have HE37:=hid VF;clear VF;refine (pY g tv l en iv hF _ (Nj+1) _ _ EY.out.ps (by omega) HE37.out).mono ?_;rintro e w37⟨rfl,p37,m37⟩;have Yd:=hid (EY.out.ps.aU m37 Yb.out);have Ye:=hid (EY.out.ps.aU m37 Yc.out);clear Yb Yc;have YR:=hid (EY.out.ps.iI m37 YQ.out (by decide) (by decide));clear YQ;have K8:=hid (EY.out.step p37 m37);clear EY;clear p37 m37;unfold jl;have Ea:=HR37.out;unfold kU at Ea;have HRU38:=hid Ea;clear Ea
    rcases dO HRU38.out with ⟨VG,hr39⟩ | ⟨VG,rfl⟩
    rotate_left
    ·have HE39:=hid VG;clear VG;go_wp2_with fail;refine (gQ g tv l en iv hF [61] (.inr (by decide +kernel)) _ ((Nj+1)+1) _ _ K8.out.ps (by omega) HE39.out).mono ?_;rintro e w39⟨rfl,hb39⟩
     (try unfold aI)
     go_wp2_with fail;exact⟨rfl,aR.bad rfl ((H.out.low K8.out.mv).trans (hb39.mono (aaK K8.out.ps.lt)))⟩
    have HR39:=hid hr39;clear hr39 HRU38;have hlt39:=aP VG (by simp);have HE39:=hid VG;clear VG;go_wp2_with fail;refine (eZ g tv l en iv hF [61] (.inr (by decide +kernel)) _ ((Nj+1)+1) _ _ K8.out.ps (by omega) HE39.out).mono ?_;rintro e w39⟨rfl,p39,m39⟩;have Yf:=hid (K8.out.ps.aU m39 Yd.out);have Yg:=hid (K8.out.ps.aU m39 Ye.out);clear Yd Ye;have Rb:=hid (K8.out.ps.iI m39 YR.out (by decide) (by decide));clear YR;have Bb:=hid (K8.out.step p39 m39);clear K8;clear p39 m39;rcases dW HR39.out with ⟨aaj,k40,ns40,ZY,hr40⟩ | ⟨kb40,ZY,rfl⟩
    rotate_left
    ·have HX40:=hid ZY;clear ZY;go_wp2_with fail;refine (C m (aaJ _) .expr rfl _ (((Nj+1)+1)+1) _ _ _ Bb.out.ps (by omega) (by rw [Bb.out.len];omega) (by rw [Bb.out.ns];exact JX.out) (by rw [Bb.out.ns];exact HX40.out)).mono ?_;rintro e w40⟨rfl,hb40⟩
     (try unfold aI)
     go_wp2_with fail;exact⟨rfl,aR.bad rfl ((H.out.low Bb.out.mv).trans hb40)⟩
    have HX40:=hid ZY;clear ZY;have HR40:=hid hr40;clear hr40 HR39;go_wp2_with fail;refine (C m (aaJ _) .expr rfl _ (((Nj+1)+1)+1) _ _ _ Bb.out.ps (by omega) (by rw [Bb.out.len];omega) (by rw [Bb.out.ns];exact JX.out) (by rw [Bb.out.ns];exact HX40.out)).mono ?_;rintro e w40⟨rfl,ext40,nv40,Vu⟩;have XM:=hid (aW HX40.out (by omega) JX.out (Ids.nil _) (by simp));have gl40:=XM.out.lo;have gf40:=XM.out.few;have ge40:=XM.out.le;have gn40:=XM.out.len;simp only [Job.reads] at gl40
    have Yh:=hid (Vu.blk Bb.out.ps Yf.out (by decide) (by decide));have Yi:=hid (Vu.blk Bb.out.ps Yg.out (by decide) (by decide));clear Yf Yg;have HNE40:=hid (uj TP.out Vu.fresh (fun b hb=>(Rb.out.lt b hb).2));clear TP;have DC:=hid (Bb.out.ps.iI Vu.mv Rb.out (by decide) (by decide));clear Rb;have HWF40:=hid XM.out.wf;have HA40:=hid (Bb.out.trans Vu);clear Bb;clear Vu
    go_wp2_with (at_builtin
                 refine wpList_append_lies _ rfl (.tmp 42) (.tmp 45) 24 rfl w.heap.size 3 i0 _ 1 8 Tryz.underlying24 hi0 hz0 hz1 hz2 rfl (by decide) _ (SC+1) (intCells (Fh ++ [hd Fj])) rfl
                   (DC.out.alloc _) ⟨w40.heap.size,0,none⟩ 1 1 [.int .i64 (hd aaj)] rfl rfl (iP _ _ _) (by intro u hu;simp at hu;subst hu;rfl) (by omega) (by simp only [maxLen];omega) (by omega) (by have:=HA40.out.mv.size;simp;omega) (w40.heap.size+1) (by simp) ?_
                 intro gg41 cap41 w41 ZK VN hat41 hgl41;have FI:=fZ Yh.out DC.out VN (by decide);have UE:=FI.cell 0;have UF:=FI.cell 1;have UG:=FI.cell 2;have szl0:=FI.lt;have Zf:=fZ Yi.out DC.out VN (by decide);have sz1_1:=Zf.cell 1;have szl1:=Zf.lt)
    have HNE41:=hid (qG HA40.out.ps HNE40.out hat41 ((SC+1)+1) cap41);clear hat41;have Lb:=hid (fZ Yh.out DC.out VN (by decide));have Yj:=hid (fZ Yi.out DC.out VN (by decide));have HA41:=hid ((HA40.out.alloc (.cells #[.int .i64 (hd aaj)] 3)).grown H.out DC.out (by decide) VN HNE40.out);have HV41:=hid (show w41.ownsRow w.heap.size 3 1 (.slice (some ⟨gg41,0,none⟩) ((SC+1)+1) cap41) ((SC+1)+1) (intCells ((Fh ++ [hd Fj]) ++ [hd aaj])) by rw [eT];exact ZK);clear ZK;have HQ41:=hid (show ((Fh ++ [hd Fj]) ++ [hd aaj]).length=(SC+1)+1 by rw [aaO,HQ32.out];rfl);clear VN hgl41;obtain rfl:=dV HR40.out;have fH:=Lb.out.cell 0;have fQ:=Lb.out.cell 1;have fT:=Lb.out.cell 2;have sl0:=Lb.out.lt;have rD:=Yj.out.cell 1;have sl1:=Yj.out.lt;refine (gB g tv l en iv ns40.length 42 _ _ _ (tx l (k+1)) ((numOf (tx l (Nj+1)):Nat):Int) _ ((Fh ++ [hd Fj]) ++ [hd aaj]) _ k40 _ _ HA41.out.ps (Hy HQ41.out HV41.out) HA41.out.len (by omega)).mono ?_;rintro e w42⟨rfl,nv42,p42,m42⟩;have rM:=hid (HA41.out.add p42 m42 (fun b hb=>(HV41.out.lt b hb).1));clear p42 m42;go_wp2_with fail;go_ret;exact aR.ok rfl rM.out
  ·skip;have HE33:=hid VD;clear VD;have HR33:=hid ZN;clear ZN;go_wp2_with fail;refine (kN g tv l en iv hF [117,112,116,111] (.inl (by decide +kernel)) _ Nj _ _ K7.out.ps (by omega) HE33.out).mono ?_;rintro e w43⟨rfl,ZC⟩;have Yk:=hid (FY.out.below ZC FY.out.lt);have Yl:=hid (FZ.out.below ZC FZ.out.lt);clear FY FZ;have YS:=hid (own_below HV32.out ZC);clear HV32;have K9:=hid (K7.out.below ZC);clear K7;clear ZC;have Ea:=HR33.out;unfold kU at Ea;have HRU44:=hid Ea;clear Ea
   rcases dO HRU44.out with ⟨VH,hr45⟩ | ⟨VH,rfl⟩
   rotate_left
   ·have HE45:=hid VH;clear VH;go_wp2_with fail;refine (gQ g tv l en iv hF [61] (.inr (by decide +kernel)) _ Nj _ _ K9.out.ps (by omega) HE45.out).mono ?_;rintro e w45⟨rfl,hb45⟩
    (try unfold aI)
    go_wp2_with fail;exact⟨rfl,aR.bad rfl ((H.out.low K9.out.mv).trans (hb45.mono (aaK K9.out.ps.lt)))⟩
   have HR45:=hid hr45;clear hr45 HRU44;have hlt45:=aP VH (by simp);have HE45:=hid VH;clear VH;go_wp2_with fail;refine (eZ g tv l en iv hF [61] (.inr (by decide +kernel)) _ Nj _ _ K9.out.ps (by omega) HE45.out).mono ?_;rintro e w45⟨rfl,p45,m45⟩;have Ym:=hid (K9.out.ps.aU m45 Yk.out);have Yn:=hid (K9.out.ps.aU m45 Yl.out);clear Yk Yl;have Rc:=hid (K9.out.ps.iI m45 YS.out (by decide) (by decide));clear YS;have Bc:=hid (K9.out.step p45 m45);clear K9;clear p45 m45;rcases dW HR45.out with ⟨aak,k46,ns46,Z0,hr46⟩ | ⟨kb46,Z0,rfl⟩
   rotate_left
   ·have HX46:=hid Z0;clear Z0;go_wp2_with fail;refine (C m (aaJ _) .expr rfl _ (Nj+1) _ _ _ Bc.out.ps (by omega) (by rw [Bc.out.len];omega) (by rw [Bc.out.ns];exact JX.out) (by rw [Bc.out.ns];exact HX46.out)).mono ?_;rintro e w46⟨rfl,hb46⟩
    (try unfold aI)
    go_wp2_with fail;exact⟨rfl,aR.bad rfl ((H.out.low Bc.out.mv).trans hb46)⟩
   have HX46:=hid Z0;clear Z0;have HR46:=hid hr46;clear hr46 HR45;go_wp2_with fail;refine (C m (aaJ _) .expr rfl _ (Nj+1) _ _ _ Bc.out.ps (by omega) (by rw [Bc.out.len];omega) (by rw [Bc.out.ns];exact JX.out) (by rw [Bc.out.ns];exact HX46.out)).mono ?_;rintro e w46⟨rfl,ext46,nv46,Vv⟩;have XO:=hid (aW HX46.out (by omega) JX.out (Ids.nil _) (by simp));have gl46:=XO.out.lo;have gf46:=XO.out.few;have ge46:=XO.out.le;have gn46:=XO.out.len;simp only [Job.reads] at gl46
   have Yo:=hid (Vv.blk Bc.out.ps Ym.out (by decide) (by decide));have Yp:=hid (Vv.blk Bc.out.ps Yn.out (by decide) (by decide));clear Ym Yn;have HNE46:=hid (uj TP.out Vv.fresh (fun b hb=>(Rc.out.lt b hb).2));clear TP;have DF:=hid (Bc.out.ps.iI Vv.mv Rc.out (by decide) (by decide));clear Rc;have HWF46:=hid XO.out.wf;have HA46:=hid (Bc.out.trans Vv);clear Bc;clear Vv
   go_wp2_with (at_builtin
                refine wpList_append_lies _ rfl (.tmp 42) (.tmp 45) 24 rfl w.heap.size 3 i0 _ 1 8 Tryz.underlying24 hi0 hz0 hz1 hz2 rfl (by decide) _ (SC+1) (intCells (Fh ++ [hd Fj])) rfl
                  (DF.out.alloc _) ⟨w46.heap.size,0,none⟩ 1 1 [.int .i64 (hd aak)] rfl rfl (iP _ _ _) (by intro u hu;simp at hu;subst hu;rfl) (by omega) (by simp only [maxLen];omega) (by omega) (by have:=HA46.out.mv.size;simp;omega) (w46.heap.size+1) (by simp) ?_
                intro gg47 cap47 w47 ZL VO hat47 hgl47;have FI:=fZ Yo.out DF.out VO (by decide);have UE:=FI.cell 0;have UF:=FI.cell 1;have UG:=FI.cell 2;have szl0:=FI.lt;have Zf:=fZ Yp.out DF.out VO (by decide);have sz1_1:=Zf.cell 1;have szl1:=Zf.lt)
   have HNE47:=hid (qG HA46.out.ps HNE46.out hat47 ((SC+1)+1) cap47);clear hat47;have Lc:=hid (fZ Yo.out DF.out VO (by decide));have Yq:=hid (fZ Yp.out DF.out VO (by decide));have HA47:=hid ((HA46.out.alloc (.cells #[.int .i64 (hd aak)] 3)).grown H.out DF.out (by decide) VO HNE46.out);have HV47:=hid (show w47.ownsRow w.heap.size 3 1 (.slice (some ⟨gg47,0,none⟩) ((SC+1)+1) cap47) ((SC+1)+1) (intCells ((Fh ++ [hd Fj]) ++ [hd aak])) by rw [eT];exact ZL);clear ZL;have HQ47:=hid (show ((Fh ++ [hd Fj]) ++ [hd aak]).length=(SC+1)+1 by rw [aaO,HQ32.out];rfl);clear VO hgl47;obtain rfl:=dV HR46.out;have fH:=Lc.out.cell 0;have fQ:=Lc.out.cell 1;have fT:=Lc.out.cell 2;have sl0:=Lc.out.lt;have rD:=Yq.out.cell 1;have sl1:=Yq.out.lt;refine (gB g tv l en iv ns46.length 42 _ _ _ (tx l (k+1)) 0 _ ((Fh ++ [hd Fj]) ++ [hd aak]) _ k46 _ _ HA47.out.ps (Hy HQ47.out HV47.out) HA47.out.len (by omega)).mono ?_;rintro e w48⟨rfl,nv48,p48,m48⟩;have rM:=hid (HA47.out.add p48 m48 (fun b hb=>(HV47.out.lt b hb).1));clear p48 m48;go_wp2_with fail;go_ret;exact aR.ok rfl rM.out
end
end Go.Proofs.YthepmkjggfijoaaGreatDoor
