/-
  A part of the proof.
-/
import Derived.Test.YthepmkjggfijoaaGreatDoorSA
import Derived.Test.YthepmkjggfijoaaGreatDoorS03
import Derived.Test.YthepmkjggfijoaaGreatDoorS15
set_option linter.all false
set_option maxRecDepth 100000
set_option maxHeartbeats 4000000
open Go.Lib (hid)
namespace Go.Proofs.YthepmkjggfijoaaGreatDoor
open Go.RowKit Mist
attribute [local go_sem] aj aH aS aB ak
section
variable {g:Nat} {tv:Value} {l:List Tok} {en:Int} {iv:Value} (hF:PF l)
include hF
theorem OH (m:Nat)(w:World)(k:Nat)(xs:List NV)(nv:Value)(r:j6)(h:PS g tv l en iv w (k+1) xs nv)(hk:k+1≤l.length)(hn:xs.length≤k)(hw:Wf (aA xs))(hr:gI l en m .record k (aA xs)=some r) :
  Calls Tryz.prog 183 #[.pointer (some ⟨g,0,none⟩),.agg #[.int .u8 (tg l k).kind,.string (aM (tx l k)),.int .i64 (pl l en k)]] w (aR g tv l en iv w xs nv r):=by
 have C:=fun (f:Nat) (_:f≤m) (j:Job) (hj:isFn j=true)=>qd (g:=g) (tv:=tv) (en:=en) (iv:=iv) hF f j hj
 have CL:=fun (f:Nat) (_:f≤m) (e:El)=>pW (g:=g) (tv:=tv) (en:=en) (iv:=iv) hF f e
 have H:=hid h;clear h;have oU:=hid ((At.refl H.out).alloc (.cells #[.int .u8 (tg l k).kind,.string (aM (tx l k)),.int .i64 (pl l en k)] 68));have zl:=hid (aC.new w 68 #[.int .u8 (tg l k).kind,.string (aM (tx l k)),.int .i64 (pl l en k)]);have HW0:=hid hw;clear hw;have hn0:(aA xs).length≤k:=by rw [aD];exact hn
 have hlen:=hF.len;unfold gI at hr
 have qm:=hid hr;clear hr;go_in
 rcases gH qm.out with ⟨he1,hr1⟩ | ⟨he1,rfl⟩
 rotate_left
 ·have xM:=hid he1;clear he1;go_wp2_with fail;refine (mX g tv l en iv hF _ (k+1) _ _ oU.out.ps (by omega) xM.out).mono ?_;rintro e w1⟨rfl,hb1⟩;unfold aI;go_wp2_with fail;exact⟨rfl,aR.bad rfl ((H.out.low oU.out.mv).trans (hb1.mono (aaK oU.out.ps.lt)))⟩
 have HR1:=hid hr1;clear hr1 qm;have hlt1:=fA he1 (by simp);have xM:=hid he1;clear he1;go_wp2_with fail;refine (lC g tv l en iv hF _ (k+1) _ _ oU.out.ps (by omega) xM.out).mono ?_;rintro e w1⟨rfl,p1,m1⟩;have tN:=hid (oU.out.ps.aU m1 zl.out);clear zl;have HA1:=hid (oU.out.step p1 m1);clear oU;clear p1 m1;unfold jl;have kC:=hid (tN.out.alloc (.cells #[.int .u8 (tg l (k+1)).kind,.string (aM (tx l (k+1))),.int .i64 (pl l en (k+1))] 68));clear tN;have og:=hid (aC.new w1 68 #[.int .u8 (tg l (k+1)).kind,.string (aM (tx l (k+1))),.int .i64 (pl l en (k+1))]);have aZ:=hid (HA1.out.alloc (.cells #[.int .u8 (tg l (k+1)).kind,.string (aM (tx l (k+1))),.int .i64 (pl l en (k+1))] 68));clear HA1;rcases dO HR1.out with ⟨he2,hr2⟩ | ⟨he2,rfl⟩
 rotate_left
 ·have HE2:=hid he2;clear he2;go_wp2_with fail;refine (gQ g tv l en iv hF [61] (.inr (by decide +kernel)) _ ((k+1)+1) _ _ aZ.out.ps (by omega) HE2.out).mono ?_;rintro e w2⟨rfl,hb2⟩;unfold aI;go_wp2_with fail;exact⟨rfl,aR.bad rfl ((H.out.low aZ.out.mv).trans (hb2.mono (aaK aZ.out.ps.lt)))⟩
 have HR2:=hid hr2;clear hr2 HR1;have hlt2:=aP he2 (by simp);have HE2:=hid he2;clear he2;go_wp2_with fail;refine (eZ g tv l en iv hF [61] (.inr (by decide +kernel)) _ ((k+1)+1) _ _ aZ.out.ps (by omega) HE2.out).mono ?_;rintro e w2⟨rfl,p2,m2⟩;have eY:=hid (aZ.out.ps.aU m2 kC.out);have l8:=hid (aZ.out.ps.aU m2 og.out);clear kC og;have HA2:=hid (aZ.out.step p2 m2);clear aZ;clear p2 m2;rcases dO HR2.out with ⟨AX,hr3⟩ | ⟨AX,rfl⟩
 rotate_left
 ·have Qj:=hid AX;clear AX;go_wp2_with fail;refine (gQ g tv l en iv hF [123] (.inr (by decide +kernel)) _ (((k+1)+1)+1) _ _ HA2.out.ps (by omega) Qj.out).mono ?_;rintro e w3⟨rfl,hb3⟩;unfold aI;go_wp2_with fail;exact⟨rfl,aR.bad rfl ((H.out.low HA2.out.mv).trans (hb3.mono (aaK HA2.out.ps.lt)))⟩
 have HR3:=hid hr3;clear hr3 HR2;have hlt3:=aP AX (by simp);have Qj:=hid AX;clear AX;go_wp2_with fail;refine (eZ g tv l en iv hF [123] (.inr (by decide +kernel)) _ (((k+1)+1)+1) _ _ HA2.out.ps (by omega) Qj.out).mono ?_;rintro e w3⟨rfl,p3,m3⟩;have iG:=hid (HA2.out.ps.aU m3 eY.out);have Np:=hid (HA2.out.ps.aU m3 l8.out);clear eY l8;have gM:=hid (HA2.out.step p3 m3);clear HA2;clear p3 m3;rcases dW HR3.out with ⟨ks4,k4,MG,hx4,hr4⟩ | ⟨kb4,hx4,rfl⟩
 rotate_left
 ·have Js:=hid hx4;clear hx4;go_wp2_with fail;refine (CL m (aaJ _) .param _ ((((k+1)+1)+1)+1) _ _ _ gM.out.ps (by omega) (by rw [gM.out.len];omega) (by rw [gM.out.ns];exact HW0.out) (by rw [gM.out.ns];exact Js.out)).mono ?_;rintro e w4⟨rfl,hb4⟩;unfold aI;go_wp2_with fail;exact⟨rfl,aR.bad rfl ((H.out.low gM.out.mv).trans hb4)⟩
 have Js:=hid hx4;clear hx4;have HR4:=hid hr4;clear hr4 HR3;go_wp2_with fail;refine (CL m (aaJ _) .param _ ((((k+1)+1)+1)+1) _ _ _ gM.out.ps (by omega) (by rw [gM.out.len];omega) (by rw [gM.out.ns];exact HW0.out) (by rw [gM.out.ns];exact Js.out)).mono ?_;rintro e w4⟨v4,j5,yH,rfl,ho4,vM,hd4⟩;have HV4:=hid (kI (base':=w.heap.size) ho4 (fun b hb=>Nat.le_trans gM.out.mv.size (ho4.lt b hb).1));clear ho4 hd4;have Jm:=hid (aW Js.out (by omega) HW0.out (Ids.nil _) (by simp));have gl4:=Jm.out.lo;have gf4:=Jm.out.few;have ge4:=Jm.out.le;have gn4:=Jm.out.len;simp only [Job.reads] at gl4
 have iw:=hid (vM.blk gM.out.ps iG.out (by decide) (by decide));have xL:=hid (vM.blk gM.out.ps Np.out (by decide) (by decide));clear iG Np;have HWF4:=hid Jm.out.wf;have fq:=hid (gM.out.trans vM);clear gM;clear vM;rcases dO HR4.out with ⟨zw,Mj⟩ | ⟨zw,rfl⟩
 rotate_left
 ·have Ns:=hid zw;clear zw;go_wp2_with fail;refine (gQ g tv l en iv hF [125] (.inr (by decide +kernel)) _ k4 _ _ fq.out.ps (by omega) Ns.out).mono ?_;rintro e w5⟨rfl,hb5⟩;unfold aI;go_wp2_with fail;exact⟨rfl,aR.bad rfl ((H.out.low fq.out.mv).trans (hb5.mono (aaK fq.out.ps.lt)))⟩
 have AU:=hid Mj;clear Mj HR4;have hlt5:=aP zw (by simp);have Ns:=hid zw;clear zw;go_wp2_with fail;refine (eZ g tv l en iv hF [125] (.inr (by decide +kernel)) _ k4 _ _ fq.out.ps (by omega) Ns.out).mono ?_;rintro e w5⟨rfl,p5,m5⟩;have oW:=hid (fq.out.ps.aU m5 iw.out);have HB5_1:=hid (fq.out.ps.aU m5 xL.out);clear iw xL;have HV5_0:=hid (fq.out.ps.iI m5 HV4.out (by decide) (by decide));clear HV4;have jX:=hid (fq.out.step p5 m5);clear fq;clear p5 m5;obtain rfl:=dV AU.out;have fH:=oW.out.cell 0;have fQ:=oW.out.cell 1;have fT:=oW.out.cell 2;have sl0:=oW.out.lt;have rD:=HB5_1.out.cell 1;have sl1:=HB5_1.out.lt;go_wp2_with fail;refine (gB g tv l en iv MG.length 41 _ _ _ (tx l (k+1)) 0 _ ks4 _ (k4+1) _ _ jX.out.ps (kI HV5_0.out (fun _ _=>aaL _)) jX.out.len (by omega)).mono ?_;rintro e w6⟨rfl,XB,p6,m6⟩;have rM:=hid (jX.out.add p6 m6 (fun b hb=>(HV5_0.out.lt b hb).1));clear p6 m6;go_wp2_with fail;go_ret;exact aR.ok rfl rM.out
end
section
variable {g:Nat} {tv:Value} {l:List Tok} {en:Int} {iv:Value} (hF:PF l)
theorem Ut {l:List Tok}(hF:PF l){k:Nat}(h:(tg l k).kind=2):numOf (tx l k) < 10000:=by
 have h1:=hF.kind _ (lN l k (fA h (by simp)));have h2:kind (tx l k)=2:=by unfold tx;rw [h1,h]
 obtain⟨h3,_,h4⟩:=vo _ h2;exact yG _ h4 h3
theorem Oi {l:List Tok}{en:Int}{k k1:Nat}{ns aJ:List Nd}{Xw:List Int}(hk:k≤l.length)(hw:Wf ns)(e:sN l en k ns=some (.ok Xw k1 aJ)):Goes l k (k+1) ns Xw k1 aJ:=((xY hk hw).2 _ e).1 Xw k1 aJ rfl
include hF
theorem FL (w:World)(k:Nat)(xs:List NV)(nv:Value)(r:j6)(h:PS g tv l en iv w k xs nv)(hk:k≤l.length)(hn:xs.length≤k)(hw:Wf (aA xs))(hr:sN l en k (aA xs)=some r) :
  Calls Tryz.prog 203 #[.pointer (some ⟨g,0,none⟩)] w (aR g tv l en iv w xs nv r):=by
 have H:=hid h;clear h;have uD:=hid (At.refl H.out);have HW0:=hid hw;clear hw;have hn0:(aA xs).length≤k:=by rw [aD];exact hn
 have hlen:=hF.len;unfold sN at hr
 go_in
 have qm:=hid hr;clear hr;go_wp2_with fail;refine (h_ g tv l en iv _ k _ _ uD.out.ps (by omega) hlen).mono ?_;rintro e w1⟨rfl,hb1⟩;have HA1:=hid (uD.out.below hb1);skip;clear hb1;have og:=hid (aC.new w1 68 #[.int .u8 (tg l k).kind,.string (aM (tx l k)),.int .i64 (pl l en k)]);have aZ:=hid (HA1.out.alloc (.cells #[.int .u8 (tg l k).kind,.string (aM (tx l k)),.int .i64 (pl l en k)] 68));clear HA1;rcases gG qm.out with ⟨he2,hr2⟩ | ⟨he2,hr2⟩
 ·skip;have hlt2:=aP he2 (by simp);have HE2:=hid he2;clear he2;have HR2:=hid hr2;clear hr2;go_wp2_with fail;refine (jg g tv l en iv hF [45] (.inr (by decide +kernel)) _ k _ _ aZ.out.ps (by omega) HE2.out).mono ?_;rintro e w3⟨rfl,p3,m3⟩;have iG:=hid (aZ.out.ps.aU m3 og.out);clear og;have gM:=hid (aZ.out.step p3 m3);clear aZ;clear p3 m3;rcases gH HR2.out with ⟨Qr,hr4⟩ | ⟨Qr,rfl⟩
  rotate_left
  ·have HE4:=hid Qr;clear Qr;go_wp2_with fail;refine (vC g tv l en iv hF _ (k+1) _ _ gM.out.ps (by omega) HE4.out).mono ?_;rintro e w4⟨rfl,hb4⟩;unfold aI;go_wp2_with fail;exact⟨rfl,aR.bad rfl ((H.out.low gM.out.mv).trans (hb4.mono (aaK gM.out.ps.lt)))⟩
  have HR4:=hid hr4;clear hr4 HR2;have hlt4:=fA Qr (by simp);have HE4:=hid Qr;clear Qr;go_wp2_with fail;refine (pY g tv l en iv hF _ (k+1) _ _ gM.out.ps (by omega) HE4.out).mono ?_;rintro e w4⟨rfl,p4,m4⟩;have iw:=hid (gM.out.ps.aU m4 iG.out);clear iG;have fq:=hid (gM.out.step p4 m4);clear gM;clear p4 m4;unfold jl;have Bf:=hid (iw.out.alloc (.cells #[.int .u8 (tg l (k+1)).kind,.string (aM (tx l (k+1))),.int .i64 (pl l en (k+1))] 68));clear iw;have E8:=hid (aC.new w4 68 #[.int .u8 (tg l (k+1)).kind,.string (aM (tx l (k+1))),.int .i64 (pl l en (k+1))]);have Qx:=hid (fq.out.alloc (.cells #[.int .u8 (tg l (k+1)).kind,.string (aM (tx l (k+1))),.int .i64 (pl l en (k+1))] 68));clear fq;have hnb:=Ut hF (k:=(k+1)) HE4.out;obtain rfl:=dV HR4.out;have fH:=Bf.out.cell 0;have fQ:=Bf.out.cell 1;have fT:=Bf.out.cell 2;have sl0:=Bf.out.lt;go_wp2_with fail;refine (gB g tv l en iv (aA xs).length 1 _ _ _ [] (-((numOf (tx l (k+1)):Nat):Int)) _ [] _ ((k+1)+1) _ _ Qx.out.ps (cB.none_ _) Qx.out.len (by omega)).mono ?_;rintro e w5⟨rfl,Fu,p5,m5⟩;have rM:=hid (Qx.out.add p5 m5 (by intro b hb;simp [Value.ownBlock] at hb));clear p5 m5;go_wp2_with fail;go_ret;exact aR.ok rfl rM.out
 ·skip;have HE2:=hid he2;clear he2;have HR2:=hid hr2;clear hr2;go_wp2_with fail;refine (kN g tv l en iv hF [45] (.inr (by decide +kernel)) _ k _ _ aZ.out.ps (by omega) HE2.out).mono ?_;rintro e w6⟨rfl,hb6⟩;have n_:=hid (og.out.below hb6 og.out.lt);clear og;have ow:=hid (aZ.out.below hb6);clear aZ;clear hb6;rcases gH HR2.out with ⟨D9,ZP⟩ | ⟨D9,rfl⟩
  rotate_left
  ·have Qk:=hid D9;clear D9;go_wp2_with fail;refine (vC g tv l en iv hF _ k _ _ ow.out.ps (by omega) Qk.out).mono ?_;rintro e w7⟨rfl,nI⟩;unfold aI;go_wp2_with fail;exact⟨rfl,aR.bad rfl ((H.out.low ow.out.mv).trans (nI.mono (aaK ow.out.ps.lt)))⟩
  have HR7:=hid ZP;clear ZP HR2;have hlt7:=fA D9 (by simp);have Qk:=hid D9;clear D9;go_wp2_with fail;refine (pY g tv l en iv hF _ k _ _ ow.out.ps (by omega) Qk.out).mono ?_;rintro e w7⟨rfl,p7,m7⟩;have kD:=hid (ow.out.ps.aU m7 n_.out);clear n_;have o9:=hid (ow.out.step p7 m7);clear ow;clear p7 m7;unfold jl;have Bg:=hid (kD.out.alloc (.cells #[.int .u8 (tg l k).kind,.string (aM (tx l k)),.int .i64 (pl l en k)] 68));clear kD;have HN7:=hid (aC.new w7 68 #[.int .u8 (tg l k).kind,.string (aM (tx l k)),.int .i64 (pl l en k)]);have Qy:=hid (o9.out.alloc (.cells #[.int .u8 (tg l k).kind,.string (aM (tx l k)),.int .i64 (pl l en k)] 68));clear o9;have hnb:=Ut hF (k:=k) Qk.out;obtain rfl:=dV HR7.out;have fH:=Bg.out.cell 0;have fQ:=Bg.out.cell 1;have fT:=Bg.out.cell 2;have sl0:=Bg.out.lt;go_wp2_with fail;refine (gB g tv l en iv (aA xs).length 1 _ _ _ [] ((numOf (tx l k):Nat):Int) _ [] _ (k+1) _ _ Qy.out.ps (cB.none_ _) Qy.out.len (by omega)).mono ?_;rintro e w8⟨rfl,V_,p8,m8⟩;have rM:=hid (Qy.out.add p8 m8 (by intro b hb;simp [Value.ownBlock] at hb));clear p8 m8;go_wp2_with fail;go_ret;exact aR.ok rfl rM.out
end
section
variable {g:Nat} {tv:Value} {l:List Tok} {en:Int} {iv:Value} (hF:PF l)
include hF
theorem OG (m:Nat)(w:World)(k:Nat)(xs:List NV)(nv:Value)(r:j6)(h:PS g tv l en iv w (k+1) xs nv)(hk:k+1≤l.length)(hn:xs.length≤k)(hw:Wf (aA xs))(hr:gI l en m .choose k (aA xs)=some r) :
  Calls Tryz.prog 182 #[.pointer (some ⟨g,0,none⟩),.agg #[.int .u8 (tg l k).kind,.string (aM (tx l k)),.int .i64 (pl l en k)]] w (aR g tv l en iv w xs nv r):=by
 have C:=fun (f:Nat) (_:f≤m) (j:Job) (hj:isFn j=true)=>qd (g:=g) (tv:=tv) (en:=en) (iv:=iv) hF f j hj
 have CL:=fun (f:Nat) (_:f≤m) (e:El)=>pW (g:=g) (tv:=tv) (en:=en) (iv:=iv) hF f e
 have H:=hid h;clear h;have oU:=hid ((At.refl H.out).alloc (.cells #[.int .u8 (tg l k).kind,.string (aM (tx l k)),.int .i64 (pl l en k)] 68));have zl:=hid (aC.new w 68 #[.int .u8 (tg l k).kind,.string (aM (tx l k)),.int .i64 (pl l en k)]);have HW0:=hid hw;clear hw;have hn0:(aA xs).length≤k:=by rw [aD];exact hn
 have hlen:=hF.len;unfold gI at hr
 have qm:=hid hr;clear hr;go_in
 rcases gH qm.out with ⟨he1,hr1⟩ | ⟨he1,rfl⟩
 rotate_left
 ·have xM:=hid he1;clear he1;go_wp2_with fail;refine (mX g tv l en iv hF _ (k+1) _ _ oU.out.ps (by omega) xM.out).mono ?_;rintro e w1⟨rfl,hb1⟩;unfold aI;go_wp2_with fail;exact⟨rfl,aR.bad rfl ((H.out.low oU.out.mv).trans (hb1.mono (aaK oU.out.ps.lt)))⟩
 have HR1:=hid hr1;clear hr1 qm;have hlt1:=fA he1 (by simp);have xM:=hid he1;clear he1;go_wp2_with fail;refine (lC g tv l en iv hF _ (k+1) _ _ oU.out.ps (by omega) xM.out).mono ?_;rintro e w1⟨rfl,p1,m1⟩;have tN:=hid (oU.out.ps.aU m1 zl.out);clear zl;have HA1:=hid (oU.out.step p1 m1);clear oU;clear p1 m1;unfold jl;have kC:=hid (tN.out.alloc (.cells #[.int .u8 (tg l (k+1)).kind,.string (aM (tx l (k+1))),.int .i64 (pl l en (k+1))] 68));clear tN;have og:=hid (aC.new w1 68 #[.int .u8 (tg l (k+1)).kind,.string (aM (tx l (k+1))),.int .i64 (pl l en (k+1))]);have aZ:=hid (HA1.out.alloc (.cells #[.int .u8 (tg l (k+1)).kind,.string (aM (tx l (k+1))),.int .i64 (pl l en (k+1))] 68));clear HA1;rcases dO HR1.out with ⟨he2,hr2⟩ | ⟨he2,rfl⟩
 rotate_left
 ·have HE2:=hid he2;clear he2;go_wp2_with fail;refine (gQ g tv l en iv hF [58] (.inr (by decide +kernel)) _ ((k+1)+1) _ _ aZ.out.ps (by omega) HE2.out).mono ?_;rintro e w2⟨rfl,hb2⟩;unfold aI;go_wp2_with fail;exact⟨rfl,aR.bad rfl ((H.out.low aZ.out.mv).trans (hb2.mono (aaK aZ.out.ps.lt)))⟩
 have HR2:=hid hr2;clear hr2 HR1;have hlt2:=aP he2 (by simp);have HE2:=hid he2;clear he2;go_wp2_with fail;refine (eZ g tv l en iv hF [58] (.inr (by decide +kernel)) _ ((k+1)+1) _ _ aZ.out.ps (by omega) HE2.out).mono ?_;rintro e w2⟨rfl,p2,m2⟩;have eY:=hid (aZ.out.ps.aU m2 kC.out);have l8:=hid (aZ.out.ps.aU m2 og.out);clear kC og;have HA2:=hid (aZ.out.step p2 m2);clear aZ;clear p2 m2;rcases dW HR2.out with ⟨Uq,k3,uK,hx3,hr3⟩ | ⟨kb3,hx3,rfl⟩
 rotate_left
 ·have Fy:=hid hx3;clear hx3;go_wp2_with fail;refine (FL hF _ (((k+1)+1)+1) _ _ _ HA2.out.ps (by omega) (by rw [HA2.out.len];omega) (by rw [HA2.out.ns];exact HW0.out) (by rw [HA2.out.ns];exact Fy.out)).mono ?_;rintro e w3⟨rfl,hb3⟩;unfold aI;go_wp2_with fail;exact⟨rfl,aR.bad rfl ((H.out.low HA2.out.mv).trans hb3)⟩
 have Fy:=hid hx3;clear hx3;have HR3:=hid hr3;clear hr3 HR2;go_wp2_with fail;refine (FL hF _ (((k+1)+1)+1) _ _ _ HA2.out.ps (by omega) (by rw [HA2.out.len];omega) (by rw [HA2.out.ns];exact HW0.out) (by rw [HA2.out.ns];exact Fy.out)).mono ?_;rintro e w3⟨rfl,ext3,FM,FK⟩;have EW:=hid (Oi (by omega) HW0.out Fy.out);have gl3:=EW.out.lo;have gf3:=EW.out.few;have ge3:=EW.out.le;have gn3:=EW.out.len;have iG:=hid (FK.blk HA2.out.ps eY.out (by decide) (by decide));have Np:=hid (FK.blk HA2.out.ps l8.out (by decide) (by decide));clear eY l8;have HWF3:=hid EW.out.wf;have gM:=hid (HA2.out.trans FK);clear HA2;clear FK;rcases dO HR3.out with ⟨Qr,hr4⟩ | ⟨Qr,rfl⟩
 rotate_left
 ·have HE4:=hid Qr;clear Qr;go_wp2_with fail;refine (gQ g tv l en iv hF [46,46] (.inr (by decide +kernel)) _ k3 _ _ gM.out.ps (by omega) HE4.out).mono ?_;rintro e w4⟨rfl,hb4⟩;unfold aI;go_wp2_with fail;exact⟨rfl,aR.bad rfl ((H.out.low gM.out.mv).trans (hb4.mono (aaK gM.out.ps.lt)))⟩
 have HR4:=hid hr4;clear hr4 HR3;have hlt4:=aP Qr (by simp);have HE4:=hid Qr;clear Qr;go_wp2_with fail;refine (eZ g tv l en iv hF [46,46] (.inr (by decide +kernel)) _ k3 _ _ gM.out.ps (by omega) HE4.out).mono ?_;rintro e w4⟨rfl,p4,m4⟩;have iw:=hid (gM.out.ps.aU m4 iG.out);have xL:=hid (gM.out.ps.aU m4 Np.out);clear iG Np;have fq:=hid (gM.out.step p4 m4);clear gM;clear p4 m4;rcases dW HR4.out with ⟨ks5,k5,ns5,hx5,Mj⟩ | ⟨kb5,hx5,rfl⟩
 rotate_left
 ·have HX5:=hid hx5;clear hx5;have fH:=iw.out.cell 0;have fQ:=iw.out.cell 1;have fT:=iw.out.cell 2;have sl0:=iw.out.lt;have rD:=xL.out.cell 1;have sl1:=xL.out.lt;go_wp2_with fail;refine wp_region_held_drew (S:=fun w'=>w'.cell? ⟨w.heap.size,0,none⟩=some (.int .u8 (tg l k).kind)∧w'.cell? ⟨w.heap.size,1,none⟩=some (.string (aM (tx l k)))∧w'.cell? ⟨w.heap.size,2,none⟩=some (.int .i64 (pl l en k))∧w'.cell? ⟨w1.heap.size,1,none⟩=some (.string (aM (tx l (k+1))))) (by kernel_rfl) ⟨fH,fQ,fT,rD⟩ (fun hHeld=>?_);refine bf 0 rfl hHeld ?_;simp only [Act.put,aaA,aaB,aaC];refine bf 1 rfl hHeld ?_;simp only [Act.put,aaA,aaB,aaC];refine bf 2 rfl hHeld ?_;simp only [Act.put,aaA,aaB,aaC];refine bf 3 rfl hHeld ?_;simp only [Act.put,aaA,aaB,aaC];refine bf 4 rfl hHeld ?_;simp only [Act.put,aaA,aaB,aaC];refine bf 5 rfl hHeld ?_;simp only [Act.put,aaA,aaB,aaC];refine wpAnyH_ready (rs:=[6]) (by kernel_rfl) (by simp) ?_;refine fJ (.s (.s (.s (.s (.s (.s .z)))))) (fun K hK=>?_);go_simp;refine (FL hF _ (k3+1) _ _ _ fq.out.ps.drew (by omega) (by rw [fq.out.len];omega) (by rw [fq.out.ns];exact HWF3.out) (by rw [fq.out.ns];exact HX5.out)).mono ?_;rintro e w5⟨rfl,hb5⟩;unfold aI;go_wp2_with fail;exact⟨rfl,aR.bad rfl ((Below.drew (H.out.low fq.out.mv)).trans hb5)⟩
 have HX5:=hid hx5;clear hx5;have AU:=hid Mj;clear Mj HR4;have GO5:=hid (Oi (by omega) HWF3.out HX5.out);have gl5:=GO5.out.lo;have gf5:=GO5.out.few;have ge5:=GO5.out.le;have gn5:=GO5.out.len;have fH:=iw.out.cell 0;have fQ:=iw.out.cell 1;have fT:=iw.out.cell 2;have sl0:=iw.out.lt;have rD:=xL.out.cell 1;have sl1:=xL.out.lt;go_wp2_with fail
 go_region_held3 (fun w'=>w'.cell? ⟨w.heap.size,0,none⟩=some (.int .u8 (tg l k).kind)∧w'.cell? ⟨w.heap.size,1,none⟩=some (.string (aM (tx l k)))∧w'.cell? ⟨w.heap.size,2,none⟩=some (.int .i64 (pl l en k))∧w'.cell? ⟨w1.heap.size,1,none⟩=some (.string (aM (tx l (k+1)))))
  (first | go_keep|(go_split_ands;refine⟨?_,?_,?_,?_⟩ <;> assumption))
  (first
   | (go_at_call 203;refine (FL hF _ (k3+1) _ _ _ fq.out.ps.drew (by omega) (by rw [fq.out.len];omega) (by rw [fq.out.ns];exact HWF3.out) (by rw [fq.out.ns];exact HX5.out)).mono ?_;rintro e w5⟨rfl,ext5,Fu,RO⟩;have jX:=hid (fq.out.drew.trans RO);have oh:=RO.blk fq.out.ps.drew iw.out.drew (by decide) (by decide);have wV:=oh.cell 0;have wW:=oh.cell 1;have wX:=oh.cell 2;have Xx:=oh.lt;have Bz:=hid oh;clear oh;have Uc:=RO.blk fq.out.ps.drew xL.out.drew (by decide) (by decide);have Zl:=Uc.cell 1;have dl1:=Uc.lt;have YX:=hid Uc;clear Uc;have Z4:=jX.out.mv.size;clear RO)
   | (go_at_call 204;refine (gB g tv l en iv ns5.length 40 _ _ _ (tx l (k+1)) 0 _ [hd Uq,hd ks5] _ k5 _ _ (jX.out.ps.alloc _) (ug w5 (hd Uq) (hd ks5)) jX.out.len (by omega)).mono ?_;rintro e w6⟨rfl,XB,p6,m6⟩;have tT:=m6.blk (Bz.out.alloc _) (jX.out.ps.tag Bz.out (by decide) (by decide)).1 (jX.out.ps.tag Bz.out (by decide) (by decide)).2;have wY:=tT.cell 0;have wZ:=tT.cell 1;have w_:=tT.cell 2;clear tT;have by5_1:=m6.blk (YX.out.alloc _) (jX.out.ps.tag YX.out (by decide) (by decide)).1 (jX.out.ps.tag YX.out (by decide) (by decide)).2;have Zn:=by5_1.cell 1;clear by5_1;have ow:=hid ((At.alloc jX.out _).add p6 m6 (by intro b hb;simp [Value.ownBlock] at hb;omega));clear p6 m6))
 all_goals
  obtain rfl:=dV AU.out;go_wp2_with fail;go_ret;exact aR.ok rfl ow.out
end
end Go.Proofs.YthepmkjggfijoaaGreatDoor
