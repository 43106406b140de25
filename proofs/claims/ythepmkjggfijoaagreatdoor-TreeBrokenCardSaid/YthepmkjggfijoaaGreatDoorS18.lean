/-
  A part of the proof.
-/
import Derived.Test.YthepmkjggfijoaaGreatDoorSA
import Derived.Test.YthepmkjggfijoaaGreatDoorS16
set_option linter.all false
set_option maxRecDepth 100000
set_option maxHeartbeats 4000000
namespace Go.Proofs.YthepmkjggfijoaaGreatDoor
open Go.RowKit Mist
attribute [local go_sem] aj aH aS aB ak
section
variable {g:Nat} {tv:Value} {l:List Tok} {en:Int} {iv:Value} (hF:PF l)
include hF
theorem VR (m:Nat)(w:World)(k:Nat)(xs:List NV)(nv:Value)(r:j6)(h:PS g tv l en iv w (k+1) xs nv)(hk:k+1≤l.length)(hn:xs.length≤k)(hw:Wf (aA xs))(hr:gI l en m .zu k (aA xs)=some r) :
  Calls Tryz.prog 184 #[.pointer (some ⟨g,0,none⟩),.agg #[.int .u8 (tg l k).kind,.string (aM (tx l k)),.int .i64 (pl l en k)]] w (aR g tv l en iv w xs nv r):=by
 have C:=fun (f:Nat) (_:f≤m) (j:Job) (hj:isFn j=true)=>qd (g:=g) (tv:=tv) (en:=en) (iv:=iv) hF f j hj
 have CL:=fun (f:Nat) (_:f≤m) (e:El)=>pW (g:=g) (tv:=tv) (en:=en) (iv:=iv) hF f e
 have H:=O h;clear h;have oU:=O ((At.refl H.o).alloc (.cells #[.int .u8 (tg l k).kind,.string (aM (tx l k)),.int .i64 (pl l en k)] 68));have zl:=O (aC.new w 68 #[.int .u8 (tg l k).kind,.string (aM (tx l k)),.int .i64 (pl l en k)]);have B:=O hw;clear hw;have hn0:(aA xs).length≤k:=by rw [aD];exact hn
 have d:=hF.len;unfold gI at hr
 have qm:=O hr;clear hr;go_in
 obtain⟨i0,hi0,hz0,hz1,hz2⟩:=info_parts gN;rcases gH qm.o with ⟨Z,hr1⟩ | ⟨Z,rfl⟩
 rotate_left
 ·have xM:=O Z;clear Z;go_wp2_with fail;refine (mX g tv l en iv hF _ (k+1) _ _ oU.o.ps (by omega) xM.o).mono ?_;rintro e w1⟨rfl,hb1⟩
  (try unfold aI)
  go_wp2_with fail;exact⟨rfl,aR.bad rfl ((H.o.low oU.o.mv).trans (hb1.mono (aaK oU.o.ps.lt)))⟩
 have HR1:=O hr1;clear hr1 qm;have hlt1:=fA Z (by simp);have xM:=O Z;clear Z;go_wp2_with fail;refine (lC g tv l en iv hF _ (k+1) _ _ oU.o.ps (by omega) xM.o).mono ?_;rintro e w1⟨rfl,p1,m1⟩;have tN:=O (oU.o.ps.aU m1 zl.o);clear zl;have HA1:=O (oU.o.step p1 m1);clear oU;clear p1 m1;unfold jl;have kC:=O (tN.o.alloc (.cells #[.int .u8 (tg l (k+1)).kind,.string (aM (tx l (k+1))),.int .i64 (pl l en (k+1))] 68));clear tN;have og:=O (aC.new w1 68 #[.int .u8 (tg l (k+1)).kind,.string (aM (tx l (k+1))),.int .i64 (pl l en (k+1))]);have aZ:=O (HA1.o.alloc (.cells #[.int .u8 (tg l (k+1)).kind,.string (aM (tx l (k+1))),.int .i64 (pl l en (k+1))] 68));clear HA1;rcases dO HR1.o with ⟨he2,hr2⟩ | ⟨he2,rfl⟩
 rotate_left
 ·have HE2:=O he2;clear he2;go_wp2_with fail;refine (gQ g tv l en iv hF [40] (.inr (by decide +kernel)) _ ((k+1)+1) _ _ aZ.o.ps (by omega) HE2.o).mono ?_;rintro e w2⟨rfl,hb2⟩
  (try unfold aI)
  go_wp2_with fail;exact⟨rfl,aR.bad rfl ((H.o.low aZ.o.mv).trans (hb2.mono (aaK aZ.o.ps.lt)))⟩
 have HR2:=O hr2;clear hr2 HR1;have hlt2:=aP he2 (by simp);have HE2:=O he2;clear he2;go_wp2_with fail;refine (eZ g tv l en iv hF [40] (.inr (by decide +kernel)) _ ((k+1)+1) _ _ aZ.o.ps (by omega) HE2.o).mono ?_;rintro e w2⟨rfl,p2,m2⟩;have eY:=O (aZ.o.ps.aU m2 kC.o);have l8:=O (aZ.o.ps.aU m2 og.o);clear kC og;have Y:=O (aZ.o.step p2 m2);clear aZ;clear p2 m2;rcases gG HR2.o with ⟨AX,hr3⟩ | ⟨AX,hr3⟩
 ·skip;have hlt3:=aP AX (by simp);have Qj:=O AX;clear AX;have HR3:=O hr3;clear hr3;go_wp2_with fail;refine (yw [41] (.inr (by decide +kernel)) g tv l en iv _ (((k+1)+1)+1) _ _ (Y.o.alloc _).ps (by omega) d hF.kind _ _ 9 (0,0) (heap_alloc_new _ _) true (by simp [Qj.o])).mono ?_;rintro e w4⟨rfl,hb4⟩;have iw:=O ((eY.o.alloc (.cells #[.string (aM [41])] 9)).below hb4 (eY.o.alloc (.cells #[.string (aM [41])] 9)).lt);have xL:=O ((l8.o.alloc (.cells #[.string (aM [41])] 9)).below hb4 (l8.o.alloc (.cells #[.string (aM [41])] 9)).lt);clear eY l8;have fq:=O ((Y.o.alloc (.cells #[.string (aM [41])] 9)).below hb4);clear Y;clear hb4;have HVN:=O (show w4.ownsRow w.heap.size 3 1 (.slice none 0 0) 0 (intCells []) from World.ownsRow_nil _ _ _ _);have HQN:=O (show ([]:List Int).length=0 from rfl);have YB:=O (ne_nil (ext:=[]));have a:=HR3.o;unfold mg at a;have HRU5:=O a;clear a
  rcases dO HRU5.o with ⟨VI,Ul⟩ | ⟨VI,rfl⟩
  rotate_left
  ·have HE6:=O VI;clear VI;go_wp2_with fail;refine (gQ g tv l en iv hF [41] (.inr (by decide +kernel)) _ (((k+1)+1)+1) _ _ fq.o.ps (by omega) HE6.o).mono ?_;rintro e w6⟨rfl,hb6⟩
   (try unfold aI)
   go_wp2_with fail;exact⟨rfl,aR.bad rfl ((H.o.low fq.o.mv).trans (hb6.mono (aaK fq.o.ps.lt)))⟩
  have Lu:=O Ul;clear Ul HRU5;have hlt6:=aP VI (by simp);have HE6:=O VI;clear VI;go_wp2_with fail;refine (eZ g tv l en iv hF [41] (.inr (by decide +kernel)) _ (((k+1)+1)+1) _ _ fq.o.ps (by omega) HE6.o).mono ?_;rintro e w6⟨rfl,p6,m6⟩;have n_:=O (fq.o.ps.aU m6 iw.o);have HB6_1:=O (fq.o.ps.aU m6 xL.o);clear iw xL;have HV6_0:=O (fq.o.ps.iI m6 HVN.o (by decide) (by decide));clear HVN;have ow:=O (fq.o.step p6 m6);clear fq;clear p6 m6;rcases dO Lu.o with ⟨D9,ZP⟩ | ⟨D9,rfl⟩
  rotate_left
  ·have Qk:=O D9;clear D9;go_wp2_with fail;refine (gQ g tv l en iv hF [58] (.inr (by decide +kernel)) _ ((((k+1)+1)+1)+1) _ _ ow.o.ps (by omega) Qk.o).mono ?_;rintro e w7⟨rfl,nI⟩
   (try unfold aI)
   go_wp2_with fail;exact⟨rfl,aR.bad rfl ((H.o.low ow.o.mv).trans (nI.mono (aaK ow.o.ps.lt)))⟩
  have HR7:=O ZP;clear ZP Lu;have hlt7:=aP D9 (by simp);have Qk:=O D9;clear D9;go_wp2_with fail;refine (eZ g tv l en iv hF [58] (.inr (by decide +kernel)) _ ((((k+1)+1)+1)+1) _ _ ow.o.ps (by omega) Qk.o).mono ?_;rintro e w7⟨rfl,p7,m7⟩;have kD:=O (ow.o.ps.aU m7 n_.o);have HB7_1:=O (ow.o.ps.aU m7 HB6_1.o);clear n_ HB6_1;have YT:=O (ow.o.ps.iI m7 HV6_0.o (by decide) (by decide));clear HV6_0;have W:=O (ow.o.step p7 m7);clear ow;clear p7 m7;rcases dW HR7.o with ⟨Ib,t,ns8,EG,Oy⟩ | ⟨kb8,EG,rfl⟩
  rotate_left
  ·have LJ:=O EG;clear EG;go_wp2_with fail;refine (C m (aaJ _) .typ rfl _ (((((k+1)+1)+1)+1)+1) _ _ _ W.o.ps (by omega) (by rw [W.o.len];omega) (by rw [W.o.ns];exact B.o) (by rw [W.o.ns];exact LJ.o)).mono ?_;rintro e w8⟨rfl,tZ⟩
   (try unfold aI)
   go_wp2_with fail;exact⟨rfl,aR.bad rfl ((H.o.low W.o.mv).trans tZ)⟩
  have LJ:=O EG;clear EG;have U5:=O Oy;clear Oy HR7;go_wp2_with fail;refine (C m (aaJ _) .typ rfl _ (((((k+1)+1)+1)+1)+1) _ _ _ W.o.ps (by omega) (by rw [W.o.len];omega) (by rw [W.o.ns];exact B.o) (by rw [W.o.ns];exact LJ.o)).mono ?_;rintro e w8⟨rfl,ext8,V_,Kq⟩;have Je:=O (aW LJ.o (by omega) B.o (Ids.nil _) (by simp));have gl8:=Je.o.lo;have gf8:=Je.o.few;have ge8:=Je.o.le;have gn8:=Je.o.len;simp only [Job.reads] at gl8
  have uO:=O (Kq.blk W.o.ps kD.o (by decide) (by decide));have HB8_1:=O (Kq.blk W.o.ps HB7_1.o (by decide) (by decide));clear kD HB7_1;have Yz:=O (uj YB.o Kq.fresh (fun b c=>(YT.o.lt b c).2));clear YB;have Bw:=O (W.o.ps.iI Kq.mv YT.o (by decide) (by decide));clear YT;have Nz:=O Je.o.wf;have zL:=O (W.o.trans Kq);clear W;clear Kq
  go_wp2_with (at_builtin
               refine wpList_append_lies _ rfl (.tmp 22) (.tmp 25) 24 rfl w.heap.size 3 i0 _ 1 8 Tryz.underlying24 hi0 hz0 hz1 hz2 rfl (by decide) _ 0 (intCells []) rfl
                 (Bw.o.alloc _) ⟨w8.heap.size,0,none⟩ 1 1 [.int .i64 (hd Ib)] rfl rfl (iP _ _ _) (by intro u v;simp at v;subst v;rfl) (by omega) (by simp only [maxLen];omega) (by omega) (by have:=zL.o.mv.size;simp;omega) (w8.heap.size+1) (by simp) ?_
               intro gg9 Zg w9 Oo hg9 Zx hgl9)
  have YA:=O (qG zL.o.ps Yz.o Zx (0+1) Zg);clear Zx;have l9:=O (fZ uO.o Bw.o hg9 (by decide));have Nq:=O (fZ HB8_1.o Bw.o hg9 (by decide));have vK:=O ((zL.o.alloc (.cells #[.int .i64 (hd Ib)] 3)).grown H.o Bw.o (by decide) hg9 Yz.o);have HV9:=O (show w9.ownsRow w.heap.size 3 1 (.slice (some ⟨gg9,0,none⟩) (0+1) Zg) (0+1) (intCells ([] ++ [hd Ib])) by rw [eT];exact Oo);clear Oo;have HQ9:=O (show ([] ++ [hd Ib]).length=0+1 by rw [aaO,HQN.o];rfl);clear hg9 hgl9;rcases gG U5.o with ⟨D5,Ch⟩ | ⟨D5,Ch⟩
  ·skip;have hlt10:=aP D5 (by simp);have QK:=O D5;clear D5;have E9:=O Ch;clear Ch;go_wp2_with fail;refine (jg g tv l en iv hF [117,112,116,111] (.inl (by decide +kernel)) _ t _ _ vK.o.ps (by omega) QK.o).mono ?_;rintro e Et⟨rfl,p11,m11⟩;have mF:=O (vK.o.ps.aU m11 l9.o);have Qz:=O (vK.o.ps.aU m11 Nq.o);clear l9 Nq;have YI:=O (vK.o.ps.iI m11 HV9.o (by decide) (by decide));clear HV9;have oz:=O (vK.o.step p11 m11);clear vK;clear p11 m11;go_wp2_with fail;refine (h_ g tv l en iv _ (t+1) _ _ oz.o.ps (by omega) d).mono ?_;rintro e wQ⟨rfl,G6⟩;have oD:=O (mF.o.below G6 mF.o.lt);have XT:=O (Qz.o.below G6 Qz.o.lt);clear mF Qz;have YJ:=O (own_below YI.o G6);clear YI;have mo:=O (oz.o.below G6);clear oz;clear G6;rcases gG E9.o with ⟨pV,yh⟩ | ⟨pV,yh⟩
   ·skip;have ZG:=aP pV (by simp);have zM:=O pV;clear pV;have zN:=O yh;clear yh;have q0:(tx l (t+1) == [48])=true:=UK _ [48] zM.o;have tf1:=mQ;obtain rfl:j6.bad (t+1)=r:=aaP zN.o;go_wp2_with fail;refine (sJ g tv l en iv _ (t+1) _ _ mo.o.ps (by omega) d).mono ?_;rintro e wq⟨rfl,hbq⟩
    (try unfold aI)
    go_wp2_with fail;exact⟨rfl,aR.bad rfl ((H.o.low mo.o.mv).trans (hbq.mono (aaK mo.o.ps.lt)))⟩
   ·skip;have zM:=O pV;clear pV;have zN:=O yh;clear yh;have q0:(tx l (t+1) == [48])=false:=KX _ [48] zM.o;have tf1:=mQ;go_wp2_with fail;clear q0;rcases gH zN.o with ⟨uY,G8⟩ | ⟨uY,rfl⟩
    rotate_left
    ·have F4:=O uY;clear uY;refine (vC g tv l en iv hF _ (t+1) _ _ mo.o.ps (by omega) F4.o).mono ?_;rintro e Tx⟨rfl,RU⟩
     (try unfold aI)
     go_wp2_with fail;exact⟨rfl,aR.bad rfl ((H.o.low mo.o.mv).trans (RU.mono (aaK mo.o.ps.lt)))⟩
    have Jq:=O G8;clear G8 zN;have hlt14:=fA uY (by simp);have F4:=O uY;clear uY;refine (pY g tv l en iv hF _ (t+1) _ _ mo.o.ps (by omega) F4.o).mono ?_;rintro e Tx⟨rfl,p14,m14⟩;have oF:=O (mo.o.ps.aU m14 oD.o);have FU:=O (mo.o.ps.aU m14 XT.o);clear oD XT;have YK:=O (mo.o.ps.iI m14 YJ.o (by decide) (by decide));clear YJ;have jP:=O (mo.o.step p14 m14);clear mo;clear p14 m14;unfold jl;have a:=Jq.o;unfold kU at a;have HRU15:=O a;clear a
    rcases dO HRU15.o with ⟨uZ,Ou⟩ | ⟨uZ,rfl⟩
    rotate_left
    ·have F5:=O uZ;clear uZ;go_wp2_with fail;refine (gQ g tv l en iv hF [61] (.inr (by decide +kernel)) _ ((t+1)+1) _ _ jP.o.ps (by omega) F5.o).mono ?_;rintro e w16⟨rfl,Zz⟩
     (try unfold aI)
     go_wp2_with fail;exact⟨rfl,aR.bad rfl ((H.o.low jP.o.mv).trans (Zz.mono (aaK jP.o.ps.lt)))⟩
    have Q0:=O Ou;clear Ou HRU15;have hlt16:=aP uZ (by simp);have F5:=O uZ;clear uZ;go_wp2_with fail;refine (eZ g tv l en iv hF [61] (.inr (by decide +kernel)) _ ((t+1)+1) _ _ jP.o.ps (by omega) F5.o).mono ?_;rintro e w16⟨rfl,p16,m16⟩;have pq:=O (jP.o.ps.aU m16 oF.o);have xK:=O (jP.o.ps.aU m16 FU.o);clear oF FU;have Q9:=O (jP.o.ps.iI m16 YK.o (by decide) (by decide));clear YK;have X:=O (jP.o.step p16 m16);clear jP;clear p16 m16;rcases dW Q0.o with ⟨OM,k17,ns17,He,ZM⟩ | ⟨kb17,He,rfl⟩
    rotate_left
    ·have LH:=O He;clear He;go_wp2_with fail;refine (C m (aaJ _) .expr rfl _ (((t+1)+1)+1) _ _ _ X.o.ps (by omega) (by rw [X.o.len];omega) (by rw [X.o.ns];exact Nz.o) (by rw [X.o.ns];exact LH.o)).mono ?_;rintro e w17⟨rfl,zW⟩
     (try unfold aI)
     go_wp2_with fail;exact⟨rfl,aR.bad rfl ((H.o.low X.o.mv).trans zW)⟩
    have LH:=O He;clear He;have HR17:=O ZM;clear ZM Q0;go_wp2_with fail;refine (C m (aaJ _) .expr rfl _ (((t+1)+1)+1) _ _ _ X.o.ps (by omega) (by rw [X.o.len];omega) (by rw [X.o.ns];exact Nz.o) (by rw [X.o.ns];exact LH.o)).mono ?_;rintro e w17⟨rfl,ext17,nv17,G5⟩;have Jl:=O (aW LH.o (by omega) Nz.o (Ids.nil _) (by simp));have gl17:=Jl.o.lo;have gf17:=Jl.o.few;have ge17:=Jl.o.le;have gn17:=Jl.o.len;simp only [Job.reads] at gl17
    have jQ:=O (G5.blk X.o.ps pq.o (by decide) (by decide));have XU:=O (G5.blk X.o.ps xK.o (by decide) (by decide));clear pq xK;have HNE17:=O (uj YA.o G5.fresh (fun b c=>(Q9.o.lt b c).2));clear YA;have Dy:=O (X.o.ps.iI G5.mv Q9.o (by decide) (by decide));clear Q9;have HWF17:=O Jl.o.wf;have nT:=O (X.o.trans G5);clear X;clear G5
    go_wp2_with (at_builtin
                 refine wpList_append_lies _ rfl (.tmp 42) (.tmp 45) 24 rfl w.heap.size 3 i0 _ 1 8 Tryz.underlying24 hi0 hz0 hz1 hz2 rfl (by decide) _ (0+1) (intCells ([] ++ [hd Ib])) rfl
                   (Dy.o.alloc _) ⟨w17.heap.size,0,none⟩ 1 1 [.int .i64 (hd OM)] rfl rfl (iP _ _ _) (by intro u v;simp at v;subst v;rfl) (by omega) (by simp only [maxLen];omega) (by omega) (by have:=nT.o.mv.size;simp;omega) (w17.heap.size+1) (by simp) ?_
                 intro gg18 cap18 w18 ZH VK hat18 hgl18;have i:=fZ jQ.o Dy.o VK (by decide);have UE:=i.cell 0;have UF:=i.cell 1;have UG:=i.cell 2;have szl0:=i.lt;have Zf:=fZ XU.o Dy.o VK (by decide);have E:=Zf.cell 1;have szl1:=Zf.lt)
    have HNE18:=O (qG nT.o.ps HNE17.o hat18 ((0+1)+1) cap18);clear hat18;have K_:=O (fZ jQ.o Dy.o VK (by decide));have XV:=O (fZ XU.o Dy.o VK (by decide));have EX:=O ((nT.o.alloc (.cells #[.int .i64 (hd OM)] 3)).grown H.o Dy.o (by decide) VK HNE17.o);have HV18:=O (show w18.ownsRow w.heap.size 3 1 (.slice (some ⟨gg18,0,none⟩) ((0+1)+1) cap18) ((0+1)+1) (intCells (([] ++ [hd Ib]) ++ [hd OM])) by rw [eT];exact ZH);clear ZH;have HQ18:=O (show (([] ++ [hd Ib]) ++ [hd OM]).length=(0+1)+1 by rw [aaO,HQ9.o];rfl);clear VK hgl18;obtain rfl:=dV HR17.o;have fH:=K_.o.cell 0;have fQ:=K_.o.cell 1;have fT:=K_.o.cell 2;have sl0:=K_.o.lt;have rD:=XV.o.cell 1;have sl1:=XV.o.lt;refine (gB g tv l en iv ns17.length 42 _ _ _ (tx l (k+1)) ((numOf (tx l (t+1)):Nat):Int) _ (([] ++ [hd Ib]) ++ [hd OM]) _ k17 _ _ EX.o.ps (Hy HQ18.o HV18.o) EX.o.len (by omega)).mono ?_;rintro e w19⟨rfl,nv19,p19,m19⟩;have rM:=O (EX.o.add p19 m19 (fun b c=>(HV18.o.lt b c).1));clear p19 m19;go_wp2_with fail;go_ret;exact aR.ok rfl rM.o
  ·skip;have QK:=O D5;clear D5;have E9:=O Ch;clear Ch;go_wp2_with fail;refine (kN g tv l en iv hF [117,112,116,111] (.inl (by decide +kernel)) _ t _ _ vK.o.ps (by omega) QK.o).mono ?_;rintro e w20⟨rfl,RX⟩;have FV:=O (l9.o.below RX l9.o.lt);have XW:=O (Nq.o.below RX Nq.o.lt);clear l9 Nq;have YM:=O (own_below HV9.o RX);clear HV9;have xu:=O (vK.o.below RX);clear vK;clear RX;have a:=E9.o;unfold kU at a;have HRU21:=O a;clear a
   rcases dO HRU21.o with ⟨Mh,Ox⟩ | ⟨Mh,rfl⟩
   rotate_left
   ·have HE22:=O Mh;clear Mh;go_wp2_with fail;refine (gQ g tv l en iv hF [61] (.inr (by decide +kernel)) _ t _ _ xu.o.ps (by omega) HE22.o).mono ?_;rintro e w22⟨rfl,hb22⟩
    (try unfold aI)
    go_wp2_with fail;exact⟨rfl,aR.bad rfl ((H.o.low xu.o.mv).trans (hb22.mono (aaK xu.o.ps.lt)))⟩
   have HR22:=O Ox;clear Ox HRU21;have hlt22:=aP Mh (by simp);have HE22:=O Mh;clear Mh;go_wp2_with fail;refine (eZ g tv l en iv hF [61] (.inr (by decide +kernel)) _ t _ _ xu.o.ps (by omega) HE22.o).mono ?_;rintro e w22⟨rfl,p22,m22⟩;have XY:=O (xu.o.ps.aU m22 FV.o);have XZ:=O (xu.o.ps.aU m22 XW.o);clear FV XW;have Q_:=O (xu.o.ps.iI m22 YM.o (by decide) (by decide));clear YM;have F:=O (xu.o.step p22 m22);clear xu;clear p22 m22;rcases dW HR22.o with ⟨aai,k23,ns23,ZX,hr23⟩ | ⟨kb23,ZX,rfl⟩
   rotate_left
   ·have P:=O ZX;clear ZX;go_wp2_with fail;refine (C m (aaJ _) .expr rfl _ (t+1) _ _ _ F.o.ps (by omega) (by rw [F.o.len];omega) (by rw [F.o.ns];exact Nz.o) (by rw [F.o.ns];exact P.o)).mono ?_;rintro e w23⟨rfl,ZA⟩
    (try unfold aI)
    go_wp2_with fail;exact⟨rfl,aR.bad rfl ((H.o.low F.o.mv).trans ZA)⟩
   have P:=O ZX;clear ZX;have HR23:=O hr23;clear hr23 HR22;go_wp2_with fail;refine (C m (aaJ _) .expr rfl _ (t+1) _ _ _ F.o.ps (by omega) (by rw [F.o.len];omega) (by rw [F.o.ns];exact Nz.o) (by rw [F.o.ns];exact P.o)).mono ?_;rintro e w23⟨rfl,ext23,nv23,Vs⟩;have XJ:=O (aW P.o (by omega) Nz.o (Ids.nil _) (by simp));have gl23:=XJ.o.lo;have gf23:=XJ.o.few;have ge23:=XJ.o.le;have gn23:=XJ.o.len;simp only [Job.reads] at gl23
   have FW:=O (Vs.blk F.o.ps XY.o (by decide) (by decide));have X0:=O (Vs.blk F.o.ps XZ.o (by decide) (by decide));clear XY XZ;have HNE23:=O (uj YA.o Vs.fresh (fun b c=>(Q_.o.lt b c).2));clear YA;have Dz:=O (F.o.ps.iI Vs.mv Q_.o (by decide) (by decide));clear Q_;have HWF23:=O XJ.o.wf;have FT:=O (F.o.trans Vs);clear F;clear Vs
   go_wp2_with (at_builtin
                refine wpList_append_lies _ rfl (.tmp 42) (.tmp 45) 24 rfl w.heap.size 3 i0 _ 1 8 Tryz.underlying24 hi0 hz0 hz1 hz2 rfl (by decide) _ (0+1) (intCells ([] ++ [hd Ib])) rfl
                  (Dz.o.alloc _) ⟨w23.heap.size,0,none⟩ 1 1 [.int .i64 (hd aai)] rfl rfl (iP _ _ _) (by intro u v;simp at v;subst v;rfl) (by omega) (by simp only [maxLen];omega) (by omega) (by have:=FT.o.mv.size;simp;omega) (w23.heap.size+1) (by simp) ?_
                intro gg24 cap24 w24 ZI VL hat24 hgl24;have i:=fZ FW.o Dz.o VL (by decide);have UE:=i.cell 0;have UF:=i.cell 1;have UG:=i.cell 2;have szl0:=i.lt;have Zf:=fZ X0.o Dz.o VL (by decide);have E:=Zf.cell 1;have szl1:=Zf.lt)
   have HNE24:=O (qG FT.o.ps HNE23.o hat24 ((0+1)+1) cap24);clear hat24;have FX:=O (fZ FW.o Dz.o VL (by decide));have X3:=O (fZ X0.o Dz.o VL (by decide));have Jo:=O ((FT.o.alloc (.cells #[.int .i64 (hd aai)] 3)).grown H.o Dz.o (by decide) VL HNE23.o);have HV24:=O (show w24.ownsRow w.heap.size 3 1 (.slice (some ⟨gg24,0,none⟩) ((0+1)+1) cap24) ((0+1)+1) (intCells (([] ++ [hd Ib]) ++ [hd aai])) by rw [eT];exact ZI);clear ZI;have HQ24:=O (show (([] ++ [hd Ib]) ++ [hd aai]).length=(0+1)+1 by rw [aaO,HQ9.o];rfl);clear VL hgl24;obtain rfl:=dV HR23.o;have fH:=FX.o.cell 0;have fQ:=FX.o.cell 1;have fT:=FX.o.cell 2;have sl0:=FX.o.lt;have rD:=X3.o.cell 1;have sl1:=X3.o.lt;refine (gB g tv l en iv ns23.length 42 _ _ _ (tx l (k+1)) 0 _ (([] ++ [hd Ib]) ++ [hd aai]) _ k23 _ _ Jo.o.ps (Hy HQ24.o HV24.o) Jo.o.len (by omega)).mono ?_;rintro e w25⟨rfl,nv25,p25,m25⟩;have rM:=O (Jo.o.add p25 m25 (fun b c=>(HV24.o.lt b c).1));clear p25 m25;go_wp2_with fail;go_ret;exact aR.ok rfl rM.o
 ·skip;have Qj:=O AX;clear AX;have HR3:=O hr3;clear hr3;go_wp2_with fail;refine (yw [41] (.inr (by decide +kernel)) g tv l en iv _ (((k+1)+1)+1) _ _ (Y.o.alloc _).ps (by omega) d hF.kind _ _ 9 (0,0) (heap_alloc_new _ _) false (by simp [Qj.o])).mono ?_;rintro e w26⟨rfl,U⟩;have X4:=O ((eY.o.alloc (.cells #[.string (aM [41])] 9)).below U (eY.o.alloc (.cells #[.string (aM [41])] 9)).lt);have X5:=O ((l8.o.alloc (.cells #[.string (aM [41])] 9)).below U (l8.o.alloc (.cells #[.string (aM [41])] 9)).lt);clear eY l8;have G:=O ((Y.o.alloc (.cells #[.string (aM [41])] 9)).below U);clear Y;clear U;rcases dW HR3.o with ⟨Fh,k27,ns27,y,hr27⟩ | ⟨kb27,y,rfl⟩
  rotate_left
  ·have YV:=O y;clear y;go_wp2_with fail;refine (CL m (aaJ _) .param _ (((k+1)+1)+1) _ _ _ G.o.ps (by omega) (by rw [G.o.len];omega) (by rw [G.o.ns];exact B.o) (by rw [G.o.ns];exact YV.o)).mono ?_;rintro e w27⟨rfl,hb27⟩
   (try unfold aI)
   go_wp2_with fail;exact⟨rfl,aR.bad rfl ((H.o.low G.o.mv).trans hb27)⟩
  have YV:=O y;clear y;have HR27:=O hr27;clear hr27 HR3;go_wp2_with fail;refine (CL m (aaJ _) .param _ (((k+1)+1)+1) _ _ _ G.o.ps (by omega) (by rw [G.o.len];omega) (by rw [G.o.ns];exact B.o) (by rw [G.o.ns];exact YV.o)).mono ?_;rintro e w27⟨v27,ext27,nv27,rfl,ho27,T,hd27⟩;have M:=O (kI (base':=w.heap.size) ho27 (fun b c=>Nat.le_trans G.o.mv.size (ho27.lt b c).1));clear ho27;have XK:=O (aW YV.o (by omega) B.o (Ids.nil _) (by simp));have gl27:=XK.o.lo;have gf27:=XK.o.few;have ge27:=XK.o.le;have gn27:=XK.o.len;simp only [Job.reads] at gl27
  have X6:=O (T.blk G.o.ps X4.o (by decide) (by decide));have X7:=O (T.blk G.o.ps X5.o (by decide) (by decide));clear X4 X5;have YU:=O XK.o.wf;have K5:=O (G.o.trans T);clear G;clear T;have HNE27:=O (show ∀ x ∈ [] ++ ext27,x.2.ownBlock=none∨x.2.ownBlock ≠ v27.ownBlock from hd27);clear hd27;have hqb27:=aam (by omega) B.o YV.o;obtain⟨D,hq27⟩:∃ q,q=Fh.length:=⟨_,rfl⟩;rw [← hq27] at M hqb27
  have HQ27:=O hq27.symm;clear hq27;obtain⟨A27,c27,rfl⟩:=dh M.o;have a:=HR27.o;unfold mg at a;have HRU28:=O a;clear a
  rcases dO HRU28.o with ⟨VA,hr29⟩ | ⟨VA,rfl⟩
  rotate_left
  ·have HE29:=O VA;clear VA;go_wp2_with fail;refine (gQ g tv l en iv hF [41] (.inr (by decide +kernel)) _ k27 _ _ K5.o.ps (by omega) HE29.o).mono ?_;rintro e w29⟨rfl,hb29⟩
   (try unfold aI)
   go_wp2_with fail;exact⟨rfl,aR.bad rfl ((H.o.low K5.o.mv).trans (hb29.mono (aaK K5.o.ps.lt)))⟩
  have HR29:=O hr29;clear hr29 HRU28;have hlt29:=aP VA (by simp);have HE29:=O VA;clear VA;go_wp2_with fail;refine (eZ g tv l en iv hF [41] (.inr (by decide +kernel)) _ k27 _ _ K5.o.ps (by omega) HE29.o).mono ?_;rintro e w29⟨rfl,p29,m29⟩;have X8:=O (K5.o.ps.aU m29 X6.o);have X9:=O (K5.o.ps.aU m29 X7.o);clear X6 X7;have YO:=O (K5.o.ps.iI m29 M.o (by decide) (by decide));clear M;have K6:=O (K5.o.step p29 m29);clear K5;clear p29 m29;rcases dO HR29.o with ⟨VB,hr30⟩ | ⟨VB,rfl⟩
  rotate_left
  ·have HE30:=O VB;clear VB;go_wp2_with fail;refine (gQ g tv l en iv hF [58] (.inr (by decide +kernel)) _ (k27+1) _ _ K6.o.ps (by omega) HE30.o).mono ?_;rintro e w30⟨rfl,hb30⟩
   (try unfold aI)
   go_wp2_with fail;exact⟨rfl,aR.bad rfl ((H.o.low K6.o.mv).trans (hb30.mono (aaK K6.o.ps.lt)))⟩
  have HR30:=O hr30;clear hr30 HR29;have hlt30:=aP VB (by simp);have HE30:=O VB;clear VB;go_wp2_with fail;refine (eZ g tv l en iv hF [58] (.inr (by decide +kernel)) _ (k27+1) _ _ K6.o.ps (by omega) HE30.o).mono ?_;rintro e w30⟨rfl,p30,m30⟩;have X_:=O (K6.o.ps.aU m30 X8.o);have Ya:=O (K6.o.ps.aU m30 X9.o);clear X8 X9;have Ra:=O (K6.o.ps.iI m30 YO.o (by decide) (by decide));clear YO;have I:=O (K6.o.step p30 m30);clear K6;clear p30 m30;rcases dW HR30.o with ⟨Fj,n,ns31,A,hr31⟩ | ⟨kb31,A,rfl⟩
  rotate_left
  ·have Q:=O A;clear A;go_wp2_with fail;refine (C m (aaJ _) .typ rfl _ ((k27+1)+1) _ _ _ I.o.ps (by omega) (by rw [I.o.len];omega) (by rw [I.o.ns];exact YU.o) (by rw [I.o.ns];exact Q.o)).mono ?_;rintro e w31⟨rfl,hb31⟩
   (try unfold aI)
   go_wp2_with fail;exact⟨rfl,aR.bad rfl ((H.o.low I.o.mv).trans hb31)⟩
  have Q:=O A;clear A;have HR31:=O hr31;clear hr31 HR30;go_wp2_with fail;refine (C m (aaJ _) .typ rfl _ ((k27+1)+1) _ _ _ I.o.ps (by omega) (by rw [I.o.len];omega) (by rw [I.o.ns];exact YU.o) (by rw [I.o.ns];exact Q.o)).mono ?_;rintro e w31⟨rfl,ext31,nv31,Vt⟩;have XL:=O (aW Q.o (by omega) YU.o (Ids.nil _) (by simp));have gl31:=XL.o.lo;have gf31:=XL.o.few;have ge31:=XL.o.le;have gn31:=XL.o.len;simp only [Job.reads] at gl31
  have HB31_0:=O (Vt.blk I.o.ps X_.o (by decide) (by decide));have HB31_1:=O (Vt.blk I.o.ps Ya.o (by decide) (by decide));clear X_ Ya;have HNE31:=O (uj HNE27.o Vt.fresh (fun b c=>(Ra.o.lt b c).2));clear HNE27;have LB:=O (I.o.ps.iI Vt.mv Ra.o (by decide) (by decide));clear Ra;have JX:=O XL.o.wf;have HA31:=O (I.o.trans Vt);clear I;clear Vt
  go_wp2_with (at_builtin
               refine wpList_append_lies _ rfl (.tmp 22) (.tmp 25) 24 rfl w.heap.size 3 i0 _ 1 8 Tryz.underlying24 hi0 hz0 hz1 hz2 rfl (by decide) _ D (intCells Fh) rfl
                 (LB.o.alloc _) ⟨w31.heap.size,0,none⟩ 1 1 [.int .i64 (hd Fj)] rfl rfl (iP _ _ _) (by intro u v;simp at v;subst v;rfl) (by omega) (by simp only [maxLen];omega) (by omega) (by have:=HA31.o.mv.size;simp;omega) (w31.heap.size+1) (by simp) ?_
               intro gg32 cap32 w32 ZJ V hat32 hgl32)
  have TP:=O (qG HA31.o.ps HNE31.o hat32 (D+1) cap32);clear hat32;have FY:=O (fZ HB31_0.o LB.o V (by decide));have FZ:=O (fZ HB31_1.o LB.o V (by decide));have K7:=O ((HA31.o.alloc (.cells #[.int .i64 (hd Fj)] 3)).grown H.o LB.o (by decide) V HNE31.o);have N:=O (show w32.ownsRow w.heap.size 3 1 (.slice (some ⟨gg32,0,none⟩) (D+1) cap32) (D+1) (intCells (Fh ++ [hd Fj])) by rw [eT];exact ZJ);clear ZJ;have HQ32:=O (show (Fh ++ [hd Fj]).length=D+1 by rw [aaO,HQ27.o];rfl);clear V hgl32;rcases gG HR31.o with ⟨VD,ZN⟩ | ⟨VD,ZN⟩
  ·skip;have hlt33:=aP VD (by simp);have HE33:=O VD;clear VD;have HR33:=O ZN;clear ZN;go_wp2_with fail;refine (jg g tv l en iv hF [117,112,116,111] (.inl (by decide +kernel)) _ n _ _ K7.o.ps (by omega) HE33.o).mono ?_;rintro e w34⟨rfl,p34,m34⟩;have QF:=O (K7.o.ps.aU m34 FY.o);have QG:=O (K7.o.ps.aU m34 FZ.o);clear FY FZ;have YP:=O (K7.o.ps.iI m34 N.o (by decide) (by decide));clear N;have iT:=O (K7.o.step p34 m34);clear K7;clear p34 m34;go_wp2_with fail;refine (h_ g tv l en iv _ (n+1) _ _ iT.o.ps (by omega) d).mono ?_;rintro e UR⟨rfl,ZB⟩;have Yb:=O (QF.o.below ZB QF.o.lt);have Yc:=O (QG.o.below ZB QG.o.lt);clear QF QG;have YQ:=O (own_below YP.o ZB);clear YP;have EY:=O (iT.o.below ZB);clear iT;clear ZB;rcases gG HR33.o with ⟨VE,ZO⟩ | ⟨VE,ZO⟩
   ·skip;have hlt36:=aP VE (by simp);have HE36:=O VE;clear VE;have L:=O ZO;clear ZO;have q0:(tx l (n+1) == [48])=true:=UK _ [48] HE36.o;have tf1:=mQ;obtain rfl:j6.bad (n+1)=r:=aaP L.o;go_wp2_with fail;refine (sJ g tv l en iv _ (n+1) _ _ EY.o.ps (by omega) d).mono ?_;rintro e wq⟨rfl,hbq⟩
    (try unfold aI)
    go_wp2_with fail;exact⟨rfl,aR.bad rfl ((H.o.low EY.o.mv).trans (hbq.mono (aaK EY.o.ps.lt)))⟩
   ·skip;have HE36:=O VE;clear VE;have L:=O ZO;clear ZO;have q0:(tx l (n+1) == [48])=false:=KX _ [48] HE36.o;have tf1:=mQ;go_wp2_with fail;clear q0;rcases gH L.o with ⟨VF,hr37⟩ | ⟨VF,rfl⟩
    rotate_left
    ·have HE37:=O VF;clear VF;refine (vC g tv l en iv hF _ (n+1) _ _ EY.o.ps (by omega) HE37.o).mono ?_;rintro e w37⟨rfl,hb37⟩
     (try unfold aI)
     go_wp2_with fail;exact⟨rfl,aR.bad rfl ((H.o.low EY.o.mv).trans (hb37.mono (aaK EY.o.ps.lt)))⟩
    have HR37:=O hr37;clear hr37 L;have hlt37:=fA VF (by simp);have HE37:=O VF;clear VF;refine (pY g tv l en iv hF _ (n+1) _ _ EY.o.ps (by omega) HE37.o).mono ?_;rintro e w37⟨rfl,p37,m37⟩;have Yd:=O (EY.o.ps.aU m37 Yb.o);have Ye:=O (EY.o.ps.aU m37 Yc.o);clear Yb Yc;have YR:=O (EY.o.ps.iI m37 YQ.o (by decide) (by decide));clear YQ;have K8:=O (EY.o.step p37 m37);clear EY;clear p37 m37;unfold jl;have a:=HR37.o;unfold kU at a;have HRU38:=O a;clear a
    rcases dO HRU38.o with ⟨VG,hr39⟩ | ⟨VG,rfl⟩
    rotate_left
    ·have HE39:=O VG;clear VG;go_wp2_with fail;refine (gQ g tv l en iv hF [61] (.inr (by decide +kernel)) _ ((n+1)+1) _ _ K8.o.ps (by omega) HE39.o).mono ?_;rintro e w39⟨rfl,hb39⟩
     (try unfold aI)
     go_wp2_with fail;exact⟨rfl,aR.bad rfl ((H.o.low K8.o.mv).trans (hb39.mono (aaK K8.o.ps.lt)))⟩
    have HR39:=O hr39;clear hr39 HRU38;have hlt39:=aP VG (by simp);have HE39:=O VG;clear VG;go_wp2_with fail;refine (eZ g tv l en iv hF [61] (.inr (by decide +kernel)) _ ((n+1)+1) _ _ K8.o.ps (by omega) HE39.o).mono ?_;rintro e w39⟨rfl,p39,m39⟩;have Yf:=O (K8.o.ps.aU m39 Yd.o);have Yg:=O (K8.o.ps.aU m39 Ye.o);clear Yd Ye;have Rb:=O (K8.o.ps.iI m39 YR.o (by decide) (by decide));clear YR;have J:=O (K8.o.step p39 m39);clear K8;clear p39 m39;rcases dW HR39.o with ⟨aaj,k40,ns40,ZY,hr40⟩ | ⟨kb40,ZY,rfl⟩
    rotate_left
    ·have R:=O ZY;clear ZY;go_wp2_with fail;refine (C m (aaJ _) .expr rfl _ (((n+1)+1)+1) _ _ _ J.o.ps (by omega) (by rw [J.o.len];omega) (by rw [J.o.ns];exact JX.o) (by rw [J.o.ns];exact R.o)).mono ?_;rintro e w40⟨rfl,hb40⟩
     (try unfold aI)
     go_wp2_with fail;exact⟨rfl,aR.bad rfl ((H.o.low J.o.mv).trans hb40)⟩
    have R:=O ZY;clear ZY;have HR40:=O hr40;clear hr40 HR39;go_wp2_with fail;refine (C m (aaJ _) .expr rfl _ (((n+1)+1)+1) _ _ _ J.o.ps (by omega) (by rw [J.o.len];omega) (by rw [J.o.ns];exact JX.o) (by rw [J.o.ns];exact R.o)).mono ?_;rintro e w40⟨rfl,ext40,nv40,Vu⟩;have XM:=O (aW R.o (by omega) JX.o (Ids.nil _) (by simp));have gl40:=XM.o.lo;have gf40:=XM.o.few;have ge40:=XM.o.le;have gn40:=XM.o.len;simp only [Job.reads] at gl40
    have Yh:=O (Vu.blk J.o.ps Yf.o (by decide) (by decide));have Yi:=O (Vu.blk J.o.ps Yg.o (by decide) (by decide));clear Yf Yg;have HNE40:=O (uj TP.o Vu.fresh (fun b c=>(Rb.o.lt b c).2));clear TP;have DC:=O (J.o.ps.iI Vu.mv Rb.o (by decide) (by decide));clear Rb;have HWF40:=O XM.o.wf;have HA40:=O (J.o.trans Vu);clear J;clear Vu
    go_wp2_with (at_builtin
                 refine wpList_append_lies _ rfl (.tmp 42) (.tmp 45) 24 rfl w.heap.size 3 i0 _ 1 8 Tryz.underlying24 hi0 hz0 hz1 hz2 rfl (by decide) _ (D+1) (intCells (Fh ++ [hd Fj])) rfl
                   (DC.o.alloc _) ⟨w40.heap.size,0,none⟩ 1 1 [.int .i64 (hd aaj)] rfl rfl (iP _ _ _) (by intro u v;simp at v;subst v;rfl) (by omega) (by simp only [maxLen];omega) (by omega) (by have:=HA40.o.mv.size;simp;omega) (w40.heap.size+1) (by simp) ?_
                 intro gg41 cap41 w41 ZK VN hat41 hgl41;have i:=fZ Yh.o DC.o VN (by decide);have UE:=i.cell 0;have UF:=i.cell 1;have UG:=i.cell 2;have szl0:=i.lt;have Zf:=fZ Yi.o DC.o VN (by decide);have E:=Zf.cell 1;have szl1:=Zf.lt)
    have HNE41:=O (qG HA40.o.ps HNE40.o hat41 ((D+1)+1) cap41);clear hat41;have Lb:=O (fZ Yh.o DC.o VN (by decide));have Yj:=O (fZ Yi.o DC.o VN (by decide));have HA41:=O ((HA40.o.alloc (.cells #[.int .i64 (hd aaj)] 3)).grown H.o DC.o (by decide) VN HNE40.o);have HV41:=O (show w41.ownsRow w.heap.size 3 1 (.slice (some ⟨gg41,0,none⟩) ((D+1)+1) cap41) ((D+1)+1) (intCells ((Fh ++ [hd Fj]) ++ [hd aaj])) by rw [eT];exact ZK);clear ZK;have HQ41:=O (show ((Fh ++ [hd Fj]) ++ [hd aaj]).length=(D+1)+1 by rw [aaO,HQ32.o];rfl);clear VN hgl41;obtain rfl:=dV HR40.o;have fH:=Lb.o.cell 0;have fQ:=Lb.o.cell 1;have fT:=Lb.o.cell 2;have sl0:=Lb.o.lt;have rD:=Yj.o.cell 1;have sl1:=Yj.o.lt;refine (gB g tv l en iv ns40.length 42 _ _ _ (tx l (k+1)) ((numOf (tx l (n+1)):Nat):Int) _ ((Fh ++ [hd Fj]) ++ [hd aaj]) _ k40 _ _ HA41.o.ps (Hy HQ41.o HV41.o) HA41.o.len (by omega)).mono ?_;rintro e w42⟨rfl,nv42,p42,m42⟩;have rM:=O (HA41.o.add p42 m42 (fun b c=>(HV41.o.lt b c).1));clear p42 m42;go_wp2_with fail;go_ret;exact aR.ok rfl rM.o
  ·skip;have HE33:=O VD;clear VD;have HR33:=O ZN;clear ZN;go_wp2_with fail;refine (kN g tv l en iv hF [117,112,116,111] (.inl (by decide +kernel)) _ n _ _ K7.o.ps (by omega) HE33.o).mono ?_;rintro e w43⟨rfl,ZC⟩;have Yk:=O (FY.o.below ZC FY.o.lt);have Yl:=O (FZ.o.below ZC FZ.o.lt);clear FY FZ;have YS:=O (own_below N.o ZC);clear N;have K9:=O (K7.o.below ZC);clear K7;clear ZC;have a:=HR33.o;unfold kU at a;have HRU44:=O a;clear a
   rcases dO HRU44.o with ⟨VH,hr45⟩ | ⟨VH,rfl⟩
   rotate_left
   ·have HE45:=O VH;clear VH;go_wp2_with fail;refine (gQ g tv l en iv hF [61] (.inr (by decide +kernel)) _ n _ _ K9.o.ps (by omega) HE45.o).mono ?_;rintro e w45⟨rfl,hb45⟩
    (try unfold aI)
    go_wp2_with fail;exact⟨rfl,aR.bad rfl ((H.o.low K9.o.mv).trans (hb45.mono (aaK K9.o.ps.lt)))⟩
   have HR45:=O hr45;clear hr45 HRU44;have hlt45:=aP VH (by simp);have HE45:=O VH;clear VH;go_wp2_with fail;refine (eZ g tv l en iv hF [61] (.inr (by decide +kernel)) _ n _ _ K9.o.ps (by omega) HE45.o).mono ?_;rintro e w45⟨rfl,p45,m45⟩;have Ym:=O (K9.o.ps.aU m45 Yk.o);have Yn:=O (K9.o.ps.aU m45 Yl.o);clear Yk Yl;have Rc:=O (K9.o.ps.iI m45 YS.o (by decide) (by decide));clear YS;have K:=O (K9.o.step p45 m45);clear K9;clear p45 m45;rcases dW HR45.o with ⟨aak,k46,ns46,Z0,hr46⟩ | ⟨kb46,Z0,rfl⟩
   rotate_left
   ·have S:=O Z0;clear Z0;go_wp2_with fail;refine (C m (aaJ _) .expr rfl _ (n+1) _ _ _ K.o.ps (by omega) (by rw [K.o.len];omega) (by rw [K.o.ns];exact JX.o) (by rw [K.o.ns];exact S.o)).mono ?_;rintro e w46⟨rfl,hb46⟩
    (try unfold aI)
    go_wp2_with fail;exact⟨rfl,aR.bad rfl ((H.o.low K.o.mv).trans hb46)⟩
   have S:=O Z0;clear Z0;have HR46:=O hr46;clear hr46 HR45;go_wp2_with fail;refine (C m (aaJ _) .expr rfl _ (n+1) _ _ _ K.o.ps (by omega) (by rw [K.o.len];omega) (by rw [K.o.ns];exact JX.o) (by rw [K.o.ns];exact S.o)).mono ?_;rintro e w46⟨rfl,ext46,nv46,Vv⟩;have XO:=O (aW S.o (by omega) JX.o (Ids.nil _) (by simp));have gl46:=XO.o.lo;have gf46:=XO.o.few;have ge46:=XO.o.le;have gn46:=XO.o.len;simp only [Job.reads] at gl46
   have Yo:=O (Vv.blk K.o.ps Ym.o (by decide) (by decide));have Yp:=O (Vv.blk K.o.ps Yn.o (by decide) (by decide));clear Ym Yn;have HNE46:=O (uj TP.o Vv.fresh (fun b c=>(Rc.o.lt b c).2));clear TP;have DF:=O (K.o.ps.iI Vv.mv Rc.o (by decide) (by decide));clear Rc;have HWF46:=O XO.o.wf;have HA46:=O (K.o.trans Vv);clear K;clear Vv
   go_wp2_with (at_builtin
                refine wpList_append_lies _ rfl (.tmp 42) (.tmp 45) 24 rfl w.heap.size 3 i0 _ 1 8 Tryz.underlying24 hi0 hz0 hz1 hz2 rfl (by decide) _ (D+1) (intCells (Fh ++ [hd Fj])) rfl
                  (DF.o.alloc _) ⟨w46.heap.size,0,none⟩ 1 1 [.int .i64 (hd aak)] rfl rfl (iP _ _ _) (by intro u v;simp at v;subst v;rfl) (by omega) (by simp only [maxLen];omega) (by omega) (by have:=HA46.o.mv.size;simp;omega) (w46.heap.size+1) (by simp) ?_
                intro gg47 cap47 w47 ZL VO hat47 hgl47;have i:=fZ Yo.o DF.o VO (by decide);have UE:=i.cell 0;have UF:=i.cell 1;have UG:=i.cell 2;have szl0:=i.lt;have Zf:=fZ Yp.o DF.o VO (by decide);have E:=Zf.cell 1;have szl1:=Zf.lt)
   have HNE47:=O (qG HA46.o.ps HNE46.o hat47 ((D+1)+1) cap47);clear hat47;have Lc:=O (fZ Yo.o DF.o VO (by decide));have Yq:=O (fZ Yp.o DF.o VO (by decide));have HA47:=O ((HA46.o.alloc (.cells #[.int .i64 (hd aak)] 3)).grown H.o DF.o (by decide) VO HNE46.o);have HV47:=O (show w47.ownsRow w.heap.size 3 1 (.slice (some ⟨gg47,0,none⟩) ((D+1)+1) cap47) ((D+1)+1) (intCells ((Fh ++ [hd Fj]) ++ [hd aak])) by rw [eT];exact ZL);clear ZL;have HQ47:=O (show ((Fh ++ [hd Fj]) ++ [hd aak]).length=(D+1)+1 by rw [aaO,HQ32.o];rfl);clear VO hgl47;obtain rfl:=dV HR46.o;have fH:=Lc.o.cell 0;have fQ:=Lc.o.cell 1;have fT:=Lc.o.cell 2;have sl0:=Lc.o.lt;have rD:=Yq.o.cell 1;have sl1:=Yq.o.lt;refine (gB g tv l en iv ns46.length 42 _ _ _ (tx l (k+1)) 0 _ ((Fh ++ [hd Fj]) ++ [hd aak]) _ k46 _ _ HA47.o.ps (Hy HQ47.o HV47.o) HA47.o.len (by omega)).mono ?_;rintro e w48⟨rfl,nv48,p48,m48⟩;have rM:=O (HA47.o.add p48 m48 (fun b c=>(HV47.o.lt b c).1));clear p48 m48;go_wp2_with fail;go_ret;exact aR.ok rfl rM.o
end
end Go.Proofs.YthepmkjggfijoaaGreatDoor
