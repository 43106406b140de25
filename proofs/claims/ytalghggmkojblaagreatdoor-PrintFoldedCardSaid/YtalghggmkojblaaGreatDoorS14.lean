/-
  A part of the proof.
-/
import Derived.Test.YtalghggmkojblaaGreatDoorS11
import Derived.Test.YtalghggmkojblaaGreatDoorS12
import Derived.Test.YtalghggmkojblaaGreatDoorS13
set_option linter.all false
set_option maxRecDepth 100000
set_option maxHeartbeats 4000000
namespace Go.Proofs.YtalghggmkojblaaGreatDoor
section
open Go.RowKit Mist
attribute [local go_sem] ak aN aV aF aj
section
variable {g:Nat} {tv:Value} {l:List Tok} {en:Int} {iv:Value} (hF:PF l)
include hF
theorem X3 (m:Nat)(C:∀ f,f≤m→∀ j,isFn j=true→IC g tv l en iv f j)(CL:∀ f,f≤m→∀ e,LC g tv l en iv f e):IC g tv l en iv (m+1) .post:=by
 intro w k xs nv r h hk hn hw X;have H:=O h;clear h;have I:=O (At.refl H.o);have U:=O hw;clear hw;have hn0:(aH xs).length≤k:=by rw [dK];exact hn
 have hlen:=hF.len;rw [run] at X
 unfold rO;go_enter Tryz.func205,Tryz.ntmps205
 have qX:=O X;clear X;rcases dW qX.o with ⟨N,k1,dI,G,hr1⟩ | ⟨kb1,G,rfl⟩
 rotate_left
 ·have D:=O G;clear G;go_wp2_with fail;refine (C m (amL _) .atom rfl _ k _ _ _ I.o.ps (by omega) (by rw [I.o.len];omega) (by rw [I.o.ns];exact U.o) (by rw [I.o.ns];exact D.o)).mono ?_;rintro e w1⟨rfl,hb1⟩;unfold aY;go_wp2_with fail;exact⟨rfl,bG.bad rfl ((H.o.low I.o.mv).trans hb1)⟩
 have D:=O G;clear G;have HR1:=O hr1;clear hr1 qX;go_wp2_with fail;refine (C m (amL _) .atom rfl _ k _ _ _ I.o.ps (by omega) (by rw [I.o.len];omega) (by rw [I.o.ns];exact U.o) (by rw [I.o.ns];exact D.o)).mono ?_;rintro e w1⟨rfl,ext1,ji,ha1⟩;have t:=O (eG D.o (by omega) U.o (Ids.nil _) (by simp));have gl1:=t.o.lo;have gf1:=t.o.few;have ge1:=t.o.le;have gn1:=t.o.len;simp only [Job.reads] at gl1
 have ahz:=O t.o.wf;have u:=O (I.o.trans ha1);skip;clear ha1;have T:=O (show run l en m (.qK (hd N)) k1 (aH (xs ++ ([] ++ ext1)))=some r by rw [u.o.ns];exact HR1.o);have HWL:=O (show Wf (aH (xs ++ ([] ++ ext1))) by rw [u.o.ns];exact ahz.o);have sM:=O (show 0≤hd N∧hd N < ((xs ++ ([] ++ ext1)).length:Int) by rw [u.o.len];exact t.o.hd);have VX:=O (show At g tv l en iv w xs nv k1 (aH (xs ++ ([] ++ ext1))) w1 ([] ++ ext1) ji by rw [u.o.ns];exact u.o);have hcn:(xs ++ ([] ++ ext1)).length≤k1:=by rw [u.o.len];omega
 obtain⟨d,hav⟩:∃ d,d=hd N:=⟨_,rfl⟩;rw [← hav] at T sM ⊢
 clear hav;go_wp2_with fail;go_loopw [3] (fun a wr=>∃ (f c:Nat) (ext:List NV) (gY:Value) (d:Int),a=.int .i64 d∧f≤m∧c≤l.length∧(xs ++ ext).length≤c∧Hid (run l en f (.qK d) c (aH (xs ++ ext))=some r)∧Hid (Wf (aH (xs ++ ext)))∧Hid (0≤d∧d < ((xs ++ ext).length:Int))∧Hid (At g tv l en iv w xs nv c (aH (xs ++ ext)) wr ext gY)) (fun _ wr=>xH g l.length wr)
 case atStart=>exact⟨m,k1,[] ++ ext1,ji,d,rfl,amL _,ge1,hcn,T,HWL,sM,VX⟩
 case round =>
  clear T HWL sM VX hcn u HR1 D t gl1 gf1 ge1 gn1 ahz;obtain⟨f,c,ext,gY,d,rfl,hfm,hk',hn',KG,Mx,sM,HA⟩:=hrel
  obtain⟨f,rfl⟩:∃ f0,f=f0+1:=⟨f - 1,by
   rcases Nat.eq_zero_or_pos f with h | h
   ·subst h;have:=KG.o;rw [run] at this;cases this
   ·omega⟩
  have HMS:=O (HA.o.ps.xH (n:=l.length));have hnl:(aH (xs ++ ext)).length≤c:=by rw [dK];exact hn'
  have X:=KG.o;rw [run] at X;have qX:=O X;clear X KG
  have ahi:=O (show 0≤d∧d < ((aH (xs ++ ext)).length:Int) by rw [dK];exact sM.o);go_wp2_with fail;refine (iU g tv l en iv _ c _ _ HA.o.ps (by omega) hlen).mono ?_;rintro e w2⟨rfl,hb2⟩;have HA2:=O (HA.o.below hb2);clear HA;clear hb2;have CK:=O (bY.new w2 112 #[.int .u8 (tg l c).kind,.string (aG (tx l c)),.int .i64 (pl l en c)]);have yg:=O (HA2.o.alloc (.cells #[.int .u8 (tg l c).kind,.string (aG (tx l c)),.int .i64 (pl l en c)] 112));clear HA2;rcases gG qX.o with ⟨Dt,F⟩ | ⟨Dt,F⟩
  ·skip;have hlt3:=dR Dt (by simp);have Qo:=O Dt;clear Dt;have J:=O F;clear F;go_wp2_with fail;refine (jT g tv l en iv hF [46] (.inr (by decide +kernel)) _ c _ _ yg.o.ps (by omega) Qo.o).mono ?_;rintro e w4⟨rfl,p4,m4⟩;have y:=O (yg.o.ps.bH m4 CK.o);clear CK;have q:=O (yg.o.step p4 m4);clear yg;clear p4 m4;have hzA:=q.o.mv.size;rcases gy J.o with ⟨xE,Oz⟩ | ⟨xE,rfl⟩
   rotate_left
   ·have MZ:=O xE;clear xE;have fP:=y.o.cell 0;have fZ:=y.o.cell 1;have f_:=y.o.cell 2;have sl0:=y.o.lt;go_wp2_with fail;refine wp_region_held_drew (S:=fun w'=>w'.cell? ⟨w2.heap.size,0,none⟩=some (.int .u8 (tg l c).kind)∧w'.cell? ⟨w2.heap.size,1,none⟩=some (.string (aG (tx l c)))∧w'.cell? ⟨w2.heap.size,2,none⟩=some (.int .i64 (pl l en c))) (by kernel_rfl) ⟨fP,fZ,f_⟩ (fun i=>?_);refine cB 0 rfl i ?_;simp only [Act.put,amC,amD,amE];refine cB 1 rfl i ?_;simp only [Act.put,amC,amD,amE];refine cB 2 rfl i ?_;simp only [Act.put,amC,amD,amE];refine cB 5 rfl i ?_;simp only [Act.put,amC,amD,amE];refine wpAnyH_ready (rs:=[3,6]) (by kernel_rfl) (by simp) ?_;refine Yj (.s (.s (.s .z))) (.s (.s (.s (.s (.s (.s .z)))))) (fun K hK=>?_) (fun K hK=>?_)
    ·go_simp;refine (mo g tv l en iv hF _ (c+1) _ _ q.o.ps.drew (by omega) MZ.o).mono ?_;rintro e w5⟨rfl,W⟩;unfold aY;go_wp2_with fail;exact⟨rfl,bG.bad rfl ((Below.drew (H.o.low q.o.mv)).trans (W.mono (amM q.o.ps.lt)))⟩
    go_simp;refine hK.out _ _ ?_ (fun K6=>?_)
    ·go_keep
    (try simp only [Act.put,amC,amD,amE])
    refine wpAnyH_ready (rs:=[3]) (by kernel_rfl) (by simp) ?_;refine gM (.s (.s (.s .z))) (fun K hK=>?_);go_simp;refine (mo g tv l en iv hF _ (c+1) _ _ (q.o.ps.drew.alloc _) (by omega) MZ.o).mono ?_;rintro e w5⟨rfl,W⟩;unfold aY;go_wp2_with fail;exact⟨rfl,bG.bad rfl ((aU (Below.drew (H.o.low q.o.mv)) (amM q.o.ps.lt)).trans (W.mono (amM (q.o.ps.drew.alloc _).lt)))⟩
   have agA:=mH xE (by simp);have MZ:=O xE;clear xE;have xw:=O Oz;clear Oz J;have tf1:=oG;have fP:=y.o.cell 0;have fZ:=y.o.cell 1;have f_:=y.o.cell 2;have sl0:=y.o.lt;go_wp2_with fail
   go_region_held3 (fun w'=>w'.cell? ⟨w2.heap.size,0,none⟩=some (.int .u8 (tg l c).kind)∧w'.cell? ⟨w2.heap.size,1,none⟩=some (.string (aG (tx l c)))∧w'.cell? ⟨w2.heap.size,2,none⟩=some (.int .i64 (pl l en c)))
    (first | go_keep|(go_split_ands;refine⟨?_,?_,?_⟩ <;> assumption))
    (first
     | (go_at_call 166;(with_reducible refine (kE g tv l en iv hF _ (c+1) _ _ q.o.ps.drew (by omega) MZ.o).mono ?_);rintro e w5⟨rfl,p5,Q⟩;unfold jc;have A:=O (q.o.drew.step p5 Q);have x:=q.o.ps.drew.bH Q y.o.drew;have vI:=x.cell 0;have vJ:=x.cell 1;have vK:=x.cell 2;have dl0:=x.lt;have zy:=O x;clear x;have hz5:=A.o.mv.size;clear p5 Q)
     | (go_at_call 166;(with_reducible refine (kE g tv l en iv hF _ (c+1) _ _ ((q.o.ps.alloc (.cells #[.int .i64 (d)] 3)).drew) (by omega) MZ.o).mono ?_);rintro e w5⟨rfl,p5,Q⟩;unfold jc;have A:=O ((At.alloc q.o (.cells #[.int .i64 (d)] 3)).drew.step p5 Q);have uU:=O ((q.o.ps.alloc (.cells #[.int .i64 (d)] 3)).drew.uy Q (own_below (rQ _ (d)) (Below.drew (Below.refl _ _))));have x:=Q.blk ((y.o.alloc (.cells #[.int .i64 (d)] 3)).drew) ((q.o.ps.alloc (.cells #[.int .i64 (d)] 3)).drew.tag ((y.o.alloc (.cells #[.int .i64 (d)] 3)).drew) (by decide) (by decide)).1 ((q.o.ps.alloc (.cells #[.int .i64 (d)] 3)).drew.tag ((y.o.alloc (.cells #[.int .i64 (d)] 3)).drew) (by decide) (by decide)).2;have vI:=x.cell 0;have vJ:=x.cell 1;have vK:=x.cell 2;have dl0:=x.lt;have zy:=O x;clear x;have hz5:=A.o.mv.size;clear p5 Q)
     | (go_at_call 168;have TA:=h_ g tv l en iv (aH (xs ++ ext)).length 22 (.int .u8 (tg l c).kind) (.string (aG (tx l c))) (pl l en c) (tx l (c+1)) 0 _ [d] _ ((c+1)+1) _ _ A.o.ps uU.o A.o.len (by omega);(refine TA.mono ?_);clear TA;rintro e w6⟨rfl,Tn,p6,Z⟩;have P:=A.o.ps.bH Z zy.o;have vL:=P.cell 0;have vM:=P.cell 1;have vN:=P.cell 2;clear P;have r_:=O (A.o.add p6 Z (by intro b hb;simp [Value.ownBlock] at hb;omega));clear p6 Z)
     | (go_at_call 168;have TA:=h_ g tv l en iv (aH (xs ++ ext)).length 22 (.int .u8 (tg l c).kind) (.string (aG (tx l c))) (pl l en c) (tx l (c+1)) 0 _ [d] _ ((c+1)+1) _ _ (A.o.ps.alloc (.cells #[.int .i64 (d)] 3)) (rQ w5 (d)) A.o.len (by omega);(refine TA.mono ?_);clear TA;rintro e w6⟨rfl,Tn,p6,Z⟩;have P:=Z.blk (zy.o.alloc _) (A.o.ps.tag zy.o (by decide) (by decide)).1 (A.o.ps.tag zy.o (by decide) (by decide)).2;have vL:=P.cell 0;have vM:=P.cell 1;have vN:=P.cell 2;clear P;have r_:=O ((At.alloc A.o _).add p6 Z (by intro b hb;simp [Value.ownBlock] at hb;omega));clear p6 Z))
   all_goals
    go_wp2_with fail;have Om:=r_.o.len;have Eu:=O Om;clear Om
    refine⟨⟨f,((c+1)+1),_,_,(((aH (xs ++ ext)).length:Nat):Int),rfl,by omega,by omega,by rw [Eu.o];simp only [amQ,amV];omega,O (by rw [r_.o.ns];exact xw.o),O (by rw [r_.o.ns];exact Mx.o.add (Ids.cons ahi.o (Ids.nil _))),O (by rw [Eu.o];simp only [amQ,amV];omega),O (by rw [r_.o.ns];exact r_.o)⟩,?_⟩
    rw [HMS.o,r_.o.ps.xH];omega
  ·skip;have Qo:=O Dt;clear Dt;have J:=O F;clear F;go_wp2_with fail;refine (lG g tv l en iv hF [46] (.inr (by decide +kernel)) _ c _ _ yg.o.ps (by omega) Qo.o).mono ?_;rintro e w7⟨rfl,uq⟩;have kG:=O (CK.o.below uq CK.o.lt);clear CK;have sG:=O (yg.o.below uq);clear yg;clear uq;rcases gG J.o with ⟨v,U9⟩ | ⟨v,U9⟩
   ·skip;have al3:=dR v (by simp);have R:=O v;clear v;have Je:=O U9;clear U9;go_wp2_with fail;refine (jT g tv l en iv hF [91] (.inr (by decide +kernel)) _ c _ _ sG.o.ps (by omega) R.o).mono ?_;rintro e w9⟨rfl,p9,m9⟩;have nS:=O (sG.o.ps.bH m9 kG.o);clear kG;have B:=O (sG.o.step p9 m9);clear sG;clear p9 m9;rcases dW Je.o with ⟨akj,M,aiG,E,Ot⟩ | ⟨ama,E,rfl⟩
    rotate_left
    ·have L:=O E;clear E;go_wp2_with fail;refine (C f (by omega) .expr rfl _ (c+1) _ _ _ B.o.ps (by omega) (by rw [B.o.len];omega) (by rw [B.o.ns];exact Mx.o) (by rw [B.o.ns];exact L.o)).mono ?_;rintro e w10⟨rfl,aa3⟩;unfold aY;go_wp2_with fail;exact⟨rfl,bG.bad rfl ((H.o.low B.o.mv).trans aa3)⟩
    have L:=O E;clear E;have Na:=O Ot;clear Ot Je;go_wp2_with fail;refine (C f (by omega) .expr rfl _ (c+1) _ _ _ B.o.ps (by omega) (by rw [B.o.len];omega) (by rw [B.o.ns];exact Mx.o) (by rw [B.o.ns];exact L.o)).mono ?_;rintro e w10⟨rfl,ak9,aeu,V⟩;have VU:=O (eG L.o (by omega) Mx.o (Ids.nil _) (by simp));have ad2:=VU.o.lo;have alE:=VU.o.few;have alv:=VU.o.le;have alN:=VU.o.len;simp only [Job.reads] at ad2
    have nV:=O (V.blk B.o.ps nS.o (by decide) (by decide));clear nS;have ahA:=O VU.o.wf;have rZ:=O (B.o.trans V);clear B;clear V;rcases dN Na.o with ⟨Dm,Ou⟩ | ⟨Dm,rfl⟩
    rotate_left
    ·have QV:=O Dm;clear Dm;go_wp2_with fail;refine (iy g tv l en iv hF [93] (.inr (by decide +kernel)) _ M _ _ rZ.o.ps (by omega) QV.o).mono ?_;rintro e w11⟨rfl,aa4⟩;unfold aY;go_wp2_with fail;exact⟨rfl,bG.bad rfl ((H.o.low rZ.o.mv).trans (aa4.mono (amM rZ.o.ps.lt)))⟩
    have Wi:=O Ou;clear Ou Na;have ah8:=dR Dm (by simp);have QV:=O Dm;clear Dm;go_wp2_with fail;refine (fO g tv l en iv hF [93] (.inr (by decide +kernel)) _ M _ _ rZ.o.ps (by omega) QV.o).mono ?_;rintro e w11⟨rfl,p11,Y⟩;have nW:=O (rZ.o.ps.bH Y nV.o);clear nV;have oV:=O (rZ.o.step p11 Y);clear rZ;clear p11 Y;have fP:=nW.o.cell 0;have fZ:=nW.o.cell 1;have f_:=nW.o.cell 2;have sl0:=nW.o.lt;go_wp2_with fail;refine (h_ g tv l en iv aiG.length 23 _ _ _ [] 0 _ [d,hd akj] _ (M+1) _ _ (oV.o.alloc _).ps (ET _ _ _) oV.o.len (by omega)).mono ?_;rintro e w12⟨rfl,agP,p12,m12⟩;have hzz:=oV.o.mv.size;have sH:=O ((oV.o.alloc _).add p12 m12 (by intro b hb;simp [Value.ownBlock] at hb;omega));clear p12 m12;go_wp2_with fail;have Om:=sH.o.len;have Eu:=O Om;clear Om
    refine⟨⟨f,(M+1),_,_,((aiG.length:Nat):Int),rfl,by omega,by omega,by rw [Eu.o];simp only [amQ,amV];omega,O (by rw [sH.o.ns];exact Wi.o),O (by rw [sH.o.ns];exact ahA.o.add (Ids.cons (by have:=ahi.o;omega) (Ids.cons VU.o.hd (Ids.nil _)))),O (by rw [Eu.o];simp only [amQ,amV];omega),O (by rw [sH.o.ns];exact sH.o)⟩,?_⟩
    rw [HMS.o,sH.o.ps.xH];omega
   ·skip;have R:=O v;clear v;have Je:=O U9;clear U9;go_wp2_with fail;refine (lG g tv l en iv hF [91] (.inr (by decide +kernel)) _ c _ _ sG.o.ps (by omega) R.o).mono ?_;rintro e w13⟨rfl,Sl⟩;have tZ:=O (kG.o.below Sl kG.o.lt);clear kG;have oK:=O (sG.o.below Sl);clear sG;clear Sl;have HST:=O (amR Je.o).symm;go_wp2_with fail;go_ret;rw [HST.o];exact bG.ok rfl oK.o
end
end
section
open Go.RowKit Mist
section
variable {g:Nat} {tv:Value} {l:List Tok} {en:Int} {iv:Value} (hF:PF l)
include hF
theorem Jf (m:Nat):(∀ f,f≤m→∀ j,isFn j=true→IC g tv l en iv f j)∧(∀ f,f≤m→∀ e,LC g tv l en iv f e):=by
 induction m with
 | zero =>
  constructor
  ·intro f a j _ w k xs nv r _ _ _ _ d;obtain rfl:f=0:=by omega
   rw [run] at d;cases d
  ·intro f a e w k xs nv r _ _ _ _ d;obtain rfl:f=0:=by omega
   rw [run] at d;cases d
 | succ m q =>
  obtain⟨C,b⟩:=q
  have n:∀ e,LC g tv l en iv (m+1) e:=by
   intro e
   cases e with
   | expr=>exact Lh hF .expr m fun f a=>C f a _ rfl
   | put=>exact Lh hF .put m fun f a=>C f a _ rfl
   | param=>exact Lh hF .param m fun f a=>C f a _ rfl
  have i:∀ j,isFn j=true→IC g tv l en iv (m+1) j:=by
   intro j c
   cases j with
   | expr=>exact X0 hF m C b
   | post=>exact X3 hF m C b
   | atom=>exact XZ hF m C b
   | put=>exact acw hF m C b
   | param=>exact Tv hF m C b
   | typ=>exact acz hF m C b
   | lv v =>
    cases v with
    | or=>exact aeS hF m fun f a=>C f a _ rfl
    | and=>exact acs hF m fun f a=>C f a _ rfl
    | not=>exact Vy hF (.lv .not) (.lv .cmp) [110,111,116] (.inl ⟨rfl,rfl,rfl⟩) (.inl (by decide +kernel)) m (C m (amL _) _ rfl) (C m (amL _) _ rfl)
    | cmp=>exact acv hF m fun f a=>C f a _ rfl
    | sum=>exact acy hF m fun f a=>C f a _ rfl
    | term=>exact X4 hF m fun f a=>C f a _ rfl
    | unary=>exact Vy hF (.lv .unary) .post [45] (.inr ⟨rfl,rfl,rfl⟩) (.inr (by decide +kernel)) m (C m (amL _) _ rfl) (C m (amL _) _ rfl)
   | tail _ _=>cases c
   | qK _=>cases c
   | list _=>cases c
   | lI _ _=>cases c
  constructor
  ·intro f a j c;rcases Nat.lt_or_ge f (m+1) with h | h
   ·exact C f (by omega) j c
   ·obtain rfl:f=m+1:=by omega
    exact i j c
  ·intro f a e;rcases Nat.lt_or_ge f (m+1) with h | h
   ·exact b f (by omega) e
   ·obtain rfl:f=m+1:=by omega
    exact n e
theorem oD (m:Nat)(j:Job)(a:isFn j=true):IC g tv l en iv m j:=(Jf hF m).1 m (amL _) j a
theorem oC (m:Nat)(e:El):LC g tv l en iv m e:=(Jf hF m).2 m (amL _) e
end
theorem JL {l:List Tok}{en:Int}:∀ (n:Nat) (e:El) (a:List Int) (k:Nat) (ns:List Nd) (b:List Int) (c:Nat) (d:List Nd),k≤l.length→Wf ns→run l en n (.lI e a) k ns=some (.ok b c d)→b.length+k≤a.length+c
 | 0,_,_,_,_,_,_,_,_,_,h=>by rw [run] at h;cases h
 | n+1,e,a,k,ns,b,c,d,hk,hw,h=>by
  rw [run] at h
  by_cases f:tx l k=[44]
  ·have m:=dR f (by simp);rw [if_pos f] at h
   rcases dW h with ⟨i,r,t,j,q⟩ | ⟨kb,j,h2⟩
   ·have g:=eG j (by omega) hw (by cases e <;> exact Ids.nil _) (by cases e <;> simp [El.job]);have h3:=JL n e (a ++ [hd i]) r t b c d g.le g.wf q;have h4:=g.lo;rw [amQ] at h3
    simp only [amV] at h3
    omega
   ·cases h2
  ·rw [if_neg f] at h
   injection h with h;injection h with h1 h2 h3
   subst h1 h2;omega
theorem abM {l:List Tok}{en:Int}{n:Nat}{e:El}{k:Nat}{ns:List Nd}{a:List Int}{b:Nat}{d:List Nd}(i:k≤l.length)(m:Wf ns)(h:run l en n (.list e) k ns=some (.ok a b d)):a.length≤b:=by
 cases n with
 | zero=>rw [run] at h;cases h
 | succ n =>
  rw [run] at h
  rcases dW h with ⟨c,q,r,f,j⟩ | ⟨kb,f,h2⟩
  ·have g:=eG f i m (by cases e <;> exact Ids.nil _) (by cases e <;> simp [El.job]);have h3:=JL n e [hd c] q r a b d g.le g.wf j;have h4:=g.lo;have h5:e.job.reads=1:=by cases e <;> rfl
   simp only [amV] at h3
   omega
  ·cases h2
theorem abD {w:World}{base q:Nat}{v:Value}{a:List Int}(b:a.length=q)(h:w.ownsRow base 3 1 v q (intCells a)):dw w v a:=by
 subst b;exact jr h (fun _ _=>amN _)
theorem ne_nil {ext:List NV}:∀ x ∈ ext,x.2.ownBlock=none∨x.2.ownBlock ≠ (Value.slice none 0 0).ownBlock:=fun x _=>by
 rcases h:x.2.ownBlock with _ | b
 ·exact .inl rfl
 ·exact .inr (by simp [Value.ownBlock])
theorem EY {ext c:List NV}{w:World}{v:Value}(h:∀ x ∈ ext,x.2.ownBlock=none∨x.2.ownBlock ≠ v.ownBlock)(d:pK w c)(hv:∀ b,v.ownBlock=some b→b < w.heap.size):∀ x ∈ ext ++ c,x.2.ownBlock=none∨x.2.ownBlock ≠ v.ownBlock:=fun x a=>by
 rcases List.mem_append.1 a with a | a
 ·exact h x a
 ·exact Od d a hv
theorem AU {g:Nat}{tv:Value}{l:List Tok}{en:Int}{iv:Value}{w1:World}{k:Nat}{xs ext:List NV}{nv:Value}{v:Value}{a:Nat}(p:PS g tv l en iv w1 k (xs ++ ext) nv)(h:∀ x ∈ ext,x.2.ownBlock=none∨x.2.ownBlock ≠ v.ownBlock)(d:v.ownBlock=some a∨a=w1.heap.size+1)(q c:Nat):∀ x ∈ ext,x.2.ownBlock=none∨x.2.ownBlock ≠ (Value.slice (some ⟨a,0,none⟩) q c).ownBlock:=fun x i=>by
 show x.2.ownBlock=none∨x.2.ownBlock ≠ some a
 rcases d with e | e
 ·rw [← e];exact h x i
 ·rcases h9:x.2.ownBlock with _ | b
  ·exact .inl rfl
  ·right
   intro f;injection f with f
   have:=(World.ownsRow.lt (p.kids x (List.mem_append_right _ i)) b h9).2
   omega
theorem l6 {w c:World}{o:Obj}{T e s n b:Nat}{v:Value}{i:List Value}{base:Nat}{cs:Array Value}(a:bY w b T cs)(h:w.ownsRow base e s v n i)(f:(w.alloc o).grownBy c v.ownBlock)(hd:e ≠ T):bY c b T cs :=
 (a.alloc o).grown f (fun d=>aW h a hd d.symm)
theorem ae9 (x y:Bs)(h:x=y):(x == y)=true:=by simp [h]
theorem YT (x y:Bs)(h:¬ x=y):(x == y)=false:=by simp [h]
def Ef:List (Bs × Value):=[([109,117,115,116],.int .i64 1),([109,97,121],.int .i64 2),([99,111,117,110,116],.int .i64 3),([98,111,117,110,100,115],.int .i64 4),([118,97,108,117,101,115],.int .i64 5),([119,104,121],.int .i64 6),([98,108,97,109,101],.int .i64 7),([108,111,111,107],.int .i64 8)]
theorem acE (x:Bs):(qQ x Ef).getD (.int .i64 0)=.int .i64 (oI x:Nat):=by
 simp only [Ef,qQ,oI];(repeat' split) <;> rfl
theorem abO (w:World)(m c:Nat)(a:w.heap[m]? = some (.map (jF Ef 0).toArray c))(x:Bs):(Instr.lookup 210 (.map (some m)) (.string (aG x)) false).run Tryz.prog w=.ok (.int .i64 (oI x:Nat)) w:=by
 have h:=Gv 210 3 (.int .i64 0) Tryz.underlying210 w (adr w) Ef m c a x false;rw [h,acE];rfl
theorem Pw (w:World):Calls Tryz.prog 175 #[] w fun e b=>e=.returned (.map (some w.heap.size))∧b=w.alloc (.map (jF Ef 0).toArray 8):=by
 have a:=@run_makeMap Tryz.prog;have c:(Instr.mapUpdate 210 (.map (some w.heap.size)) (.string ⟨#[109,117,115,116]⟩) (.int .i64 1)).run Tryz.prog (w.alloc (.map #[] 0))=.ok () (w.alloc (.map (jF [([109,117,115,116],.int .i64 1)] 0).toArray 1)):=eU 210 3 Tryz.underlying210 w [] [109,117,115,116] (.int .i64 1) (by decide +kernel);have d:(Instr.mapUpdate 210 (.map (some w.heap.size)) (.string ⟨#[109,97,121]⟩) (.int .i64 2)).run Tryz.prog (w.alloc (.map (jF [([109,117,115,116],.int .i64 1)] 0).toArray 1))=.ok () (w.alloc (.map (jF [([109,117,115,116],.int .i64 1),([109,97,121],.int .i64 2)] 0).toArray 2)):=eU 210 3 Tryz.underlying210 w [([109,117,115,116],.int .i64 1)] [109,97,121] (.int .i64 2) (by decide +kernel);have f:(Instr.mapUpdate 210 (.map (some w.heap.size)) (.string ⟨#[99,111,117,110,116]⟩) (.int .i64 3)).run Tryz.prog (w.alloc (.map (jF [([109,117,115,116],.int .i64 1),([109,97,121],.int .i64 2)] 0).toArray 2))=.ok () (w.alloc (.map (jF [([109,117,115,116],.int .i64 1),([109,97,121],.int .i64 2),([99,111,117,110,116],.int .i64 3)] 0).toArray 3)):=eU 210 3 Tryz.underlying210 w [([109,117,115,116],.int .i64 1),([109,97,121],.int .i64 2)] [99,111,117,110,116] (.int .i64 3) (by decide +kernel);have h:(Instr.mapUpdate 210 (.map (some w.heap.size)) (.string ⟨#[98,111,117,110,100,115]⟩) (.int .i64 4)).run Tryz.prog (w.alloc (.map (jF [([109,117,115,116],.int .i64 1),([109,97,121],.int .i64 2),([99,111,117,110,116],.int .i64 3)] 0).toArray 3))=.ok () (w.alloc (.map (jF [([109,117,115,116],.int .i64 1),([109,97,121],.int .i64 2),([99,111,117,110,116],.int .i64 3),([98,111,117,110,100,115],.int .i64 4)] 0).toArray 4)):=eU 210 3 Tryz.underlying210 w [([109,117,115,116],.int .i64 1),([109,97,121],.int .i64 2),([99,111,117,110,116],.int .i64 3)] [98,111,117,110,100,115] (.int .i64 4) (by decide +kernel);have i:(Instr.mapUpdate 210 (.map (some w.heap.size)) (.string ⟨#[118,97,108,117,101,115]⟩) (.int .i64 5)).run Tryz.prog (w.alloc (.map (jF [([109,117,115,116],.int .i64 1),([109,97,121],.int .i64 2),([99,111,117,110,116],.int .i64 3),([98,111,117,110,100,115],.int .i64 4)] 0).toArray 4))=.ok () (w.alloc (.map (jF [([109,117,115,116],.int .i64 1),([109,97,121],.int .i64 2),([99,111,117,110,116],.int .i64 3),([98,111,117,110,100,115],.int .i64 4),([118,97,108,117,101,115],.int .i64 5)] 0).toArray 5)):=eU 210 3 Tryz.underlying210 w [([109,117,115,116],.int .i64 1),([109,97,121],.int .i64 2),([99,111,117,110,116],.int .i64 3),([98,111,117,110,100,115],.int .i64 4)] [118,97,108,117,101,115] (.int .i64 5) (by decide +kernel);have j:(Instr.mapUpdate 210 (.map (some w.heap.size)) (.string ⟨#[119,104,121]⟩) (.int .i64 6)).run Tryz.prog (w.alloc (.map (jF [([109,117,115,116],.int .i64 1),([109,97,121],.int .i64 2),([99,111,117,110,116],.int .i64 3),([98,111,117,110,100,115],.int .i64 4),([118,97,108,117,101,115],.int .i64 5)] 0).toArray 5))=.ok () (w.alloc (.map (jF [([109,117,115,116],.int .i64 1),([109,97,121],.int .i64 2),([99,111,117,110,116],.int .i64 3),([98,111,117,110,100,115],.int .i64 4),([118,97,108,117,101,115],.int .i64 5),([119,104,121],.int .i64 6)] 0).toArray 6)):=eU 210 3 Tryz.underlying210 w [([109,117,115,116],.int .i64 1),([109,97,121],.int .i64 2),([99,111,117,110,116],.int .i64 3),([98,111,117,110,100,115],.int .i64 4),([118,97,108,117,101,115],.int .i64 5)] [119,104,121] (.int .i64 6) (by decide +kernel);have k:(Instr.mapUpdate 210 (.map (some w.heap.size)) (.string ⟨#[98,108,97,109,101]⟩) (.int .i64 7)).run Tryz.prog (w.alloc (.map (jF [([109,117,115,116],.int .i64 1),([109,97,121],.int .i64 2),([99,111,117,110,116],.int .i64 3),([98,111,117,110,100,115],.int .i64 4),([118,97,108,117,101,115],.int .i64 5),([119,104,121],.int .i64 6)] 0).toArray 6))=.ok () (w.alloc (.map (jF [([109,117,115,116],.int .i64 1),([109,97,121],.int .i64 2),([99,111,117,110,116],.int .i64 3),([98,111,117,110,100,115],.int .i64 4),([118,97,108,117,101,115],.int .i64 5),([119,104,121],.int .i64 6),([98,108,97,109,101],.int .i64 7)] 0).toArray 7)):=eU 210 3 Tryz.underlying210 w [([109,117,115,116],.int .i64 1),([109,97,121],.int .i64 2),([99,111,117,110,116],.int .i64 3),([98,111,117,110,100,115],.int .i64 4),([118,97,108,117,101,115],.int .i64 5),([119,104,121],.int .i64 6)] [98,108,97,109,101] (.int .i64 7) (by decide +kernel);have m:(Instr.mapUpdate 210 (.map (some w.heap.size)) (.string ⟨#[108,111,111,107]⟩) (.int .i64 8)).run Tryz.prog (w.alloc (.map (jF [([109,117,115,116],.int .i64 1),([109,97,121],.int .i64 2),([99,111,117,110,116],.int .i64 3),([98,111,117,110,100,115],.int .i64 4),([118,97,108,117,101,115],.int .i64 5),([119,104,121],.int .i64 6),([98,108,97,109,101],.int .i64 7)] 0).toArray 7))=.ok () (w.alloc (.map (jF [([109,117,115,116],.int .i64 1),([109,97,121],.int .i64 2),([99,111,117,110,116],.int .i64 3),([98,111,117,110,100,115],.int .i64 4),([118,97,108,117,101,115],.int .i64 5),([119,104,121],.int .i64 6),([98,108,97,109,101],.int .i64 7),([108,111,111,107],.int .i64 8)] 0).toArray 8)):=eU 210 3 Tryz.underlying210 w [([109,117,115,116],.int .i64 1),([109,97,121],.int .i64 2),([99,111,117,110,116],.int .i64 3),([98,111,117,110,100,115],.int .i64 4),([118,97,108,117,101,115],.int .i64 5),([119,104,121],.int .i64 6),([98,108,97,109,101],.int .i64 7)] [108,111,111,107] (.int .i64 8) (by decide +kernel);go_in
 go_wp2_with fail;go_ret;exact⟨rfl,rfl⟩
def EA:It→Nat
 | .choose=>133
 | .record=>134
 | .Sb=>135
 | .Lg=>136
 | .observe=>137
 | .uG=>138
 | .ask=>139
def fv (n:Nat):Value:=.func (.func n) #[] #[]
def Ah:List (Bs × Value):=[([99,104,111,111,115,101],fv (EA .choose)),([116,121,112,101],fv (EA .record)),([102,117,110],fv (EA .Sb)),([108,101,116],fv (EA .Lg)),([111,98,115,101,114,118,101],fv (EA .observe)),([114,101,116,114,97,99,116],fv (EA .uG)),([97,115,107],fv (EA .ask))]
theorem abt (x:Bs):qQ x Ah=(Xu x).map fun i=>fv (EA i):=by
 simp only [Ah,qQ,Xu];(repeat' split) <;> rfl
theorem Xy (w:World):Calls Tryz.prog 107 #[] w fun e b=>e=.returned (.map (some w.heap.size))∧b=w.alloc (.map (jF Ah 0).toArray 7):=by
 have a:=@run_makeMap Tryz.prog;have c:(Instr.mapUpdate 152 (.map (some w.heap.size)) (.string ⟨#[99,104,111,111,115,101]⟩) (.func (.func 133) #[] #[])).run Tryz.prog (w.alloc (.map #[] 0))=.ok () (w.alloc (.map (jF [([99,104,111,111,115,101],.func (.func 133) #[] #[])] 0).toArray 1)):=eU 152 156 Tryz.underlying152 w [] [99,104,111,111,115,101] (.func (.func 133) #[] #[]) (by decide +kernel);have d:(Instr.mapUpdate 152 (.map (some w.heap.size)) (.string ⟨#[116,121,112,101]⟩) (.func (.func 134) #[] #[])).run Tryz.prog (w.alloc (.map (jF [([99,104,111,111,115,101],.func (.func 133) #[] #[])] 0).toArray 1))=.ok () (w.alloc (.map (jF [([99,104,111,111,115,101],.func (.func 133) #[] #[]),([116,121,112,101],.func (.func 134) #[] #[])] 0).toArray 2)):=eU 152 156 Tryz.underlying152 w [([99,104,111,111,115,101],.func (.func 133) #[] #[])] [116,121,112,101] (.func (.func 134) #[] #[]) (by decide +kernel);have f:(Instr.mapUpdate 152 (.map (some w.heap.size)) (.string ⟨#[102,117,110]⟩) (.func (.func 135) #[] #[])).run Tryz.prog (w.alloc (.map (jF [([99,104,111,111,115,101],.func (.func 133) #[] #[]),([116,121,112,101],.func (.func 134) #[] #[])] 0).toArray 2))=.ok () (w.alloc (.map (jF [([99,104,111,111,115,101],.func (.func 133) #[] #[]),([116,121,112,101],.func (.func 134) #[] #[]),([102,117,110],.func (.func 135) #[] #[])] 0).toArray 3)):=eU 152 156 Tryz.underlying152 w [([99,104,111,111,115,101],.func (.func 133) #[] #[]),([116,121,112,101],.func (.func 134) #[] #[])] [102,117,110] (.func (.func 135) #[] #[]) (by decide +kernel);have h:(Instr.mapUpdate 152 (.map (some w.heap.size)) (.string ⟨#[108,101,116]⟩) (.func (.func 136) #[] #[])).run Tryz.prog (w.alloc (.map (jF [([99,104,111,111,115,101],.func (.func 133) #[] #[]),([116,121,112,101],.func (.func 134) #[] #[]),([102,117,110],.func (.func 135) #[] #[])] 0).toArray 3))=.ok () (w.alloc (.map (jF [([99,104,111,111,115,101],.func (.func 133) #[] #[]),([116,121,112,101],.func (.func 134) #[] #[]),([102,117,110],.func (.func 135) #[] #[]),([108,101,116],.func (.func 136) #[] #[])] 0).toArray 4)):=eU 152 156 Tryz.underlying152 w [([99,104,111,111,115,101],.func (.func 133) #[] #[]),([116,121,112,101],.func (.func 134) #[] #[]),([102,117,110],.func (.func 135) #[] #[])] [108,101,116] (.func (.func 136) #[] #[]) (by decide +kernel);have i:(Instr.mapUpdate 152 (.map (some w.heap.size)) (.string ⟨#[111,98,115,101,114,118,101]⟩) (.func (.func 137) #[] #[])).run Tryz.prog (w.alloc (.map (jF [([99,104,111,111,115,101],.func (.func 133) #[] #[]),([116,121,112,101],.func (.func 134) #[] #[]),([102,117,110],.func (.func 135) #[] #[]),([108,101,116],.func (.func 136) #[] #[])] 0).toArray 4))=.ok () (w.alloc (.map (jF [([99,104,111,111,115,101],.func (.func 133) #[] #[]),([116,121,112,101],.func (.func 134) #[] #[]),([102,117,110],.func (.func 135) #[] #[]),([108,101,116],.func (.func 136) #[] #[]),([111,98,115,101,114,118,101],.func (.func 137) #[] #[])] 0).toArray 5)):=eU 152 156 Tryz.underlying152 w [([99,104,111,111,115,101],.func (.func 133) #[] #[]),([116,121,112,101],.func (.func 134) #[] #[]),([102,117,110],.func (.func 135) #[] #[]),([108,101,116],.func (.func 136) #[] #[])] [111,98,115,101,114,118,101] (.func (.func 137) #[] #[]) (by decide +kernel);have j:(Instr.mapUpdate 152 (.map (some w.heap.size)) (.string ⟨#[114,101,116,114,97,99,116]⟩) (.func (.func 138) #[] #[])).run Tryz.prog (w.alloc (.map (jF [([99,104,111,111,115,101],.func (.func 133) #[] #[]),([116,121,112,101],.func (.func 134) #[] #[]),([102,117,110],.func (.func 135) #[] #[]),([108,101,116],.func (.func 136) #[] #[]),([111,98,115,101,114,118,101],.func (.func 137) #[] #[])] 0).toArray 5))=.ok () (w.alloc (.map (jF [([99,104,111,111,115,101],.func (.func 133) #[] #[]),([116,121,112,101],.func (.func 134) #[] #[]),([102,117,110],.func (.func 135) #[] #[]),([108,101,116],.func (.func 136) #[] #[]),([111,98,115,101,114,118,101],.func (.func 137) #[] #[]),([114,101,116,114,97,99,116],.func (.func 138) #[] #[])] 0).toArray 6)):=eU 152 156 Tryz.underlying152 w [([99,104,111,111,115,101],.func (.func 133) #[] #[]),([116,121,112,101],.func (.func 134) #[] #[]),([102,117,110],.func (.func 135) #[] #[]),([108,101,116],.func (.func 136) #[] #[]),([111,98,115,101,114,118,101],.func (.func 137) #[] #[])] [114,101,116,114,97,99,116] (.func (.func 138) #[] #[]) (by decide +kernel);have k:(Instr.mapUpdate 152 (.map (some w.heap.size)) (.string ⟨#[97,115,107]⟩) (.func (.func 139) #[] #[])).run Tryz.prog (w.alloc (.map (jF [([99,104,111,111,115,101],.func (.func 133) #[] #[]),([116,121,112,101],.func (.func 134) #[] #[]),([102,117,110],.func (.func 135) #[] #[]),([108,101,116],.func (.func 136) #[] #[]),([111,98,115,101,114,118,101],.func (.func 137) #[] #[]),([114,101,116,114,97,99,116],.func (.func 138) #[] #[])] 0).toArray 6))=.ok () (w.alloc (.map (jF [([99,104,111,111,115,101],.func (.func 133) #[] #[]),([116,121,112,101],.func (.func 134) #[] #[]),([102,117,110],.func (.func 135) #[] #[]),([108,101,116],.func (.func 136) #[] #[]),([111,98,115,101,114,118,101],.func (.func 137) #[] #[]),([114,101,116,114,97,99,116],.func (.func 138) #[] #[]),([97,115,107],.func (.func 139) #[] #[])] 0).toArray 7)):=eU 152 156 Tryz.underlying152 w [([99,104,111,111,115,101],.func (.func 133) #[] #[]),([116,121,112,101],.func (.func 134) #[] #[]),([102,117,110],.func (.func 135) #[] #[]),([108,101,116],.func (.func 136) #[] #[]),([111,98,115,101,114,118,101],.func (.func 137) #[] #[]),([114,101,116,114,97,99,116],.func (.func 138) #[] #[])] [97,115,107] (.func (.func 139) #[] #[]) (by decide +kernel);go_in
 go_wp2_with fail;go_ret;exact⟨rfl,rfl⟩
end
