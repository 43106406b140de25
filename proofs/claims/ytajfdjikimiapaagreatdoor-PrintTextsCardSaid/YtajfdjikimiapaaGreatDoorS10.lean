/-
  A part of the proof.
-/
import Derived.Test.YtajfdjikimiapaaGreatDoorS08
import Derived.Test.YtajfdjikimiapaaGreatDoorS09
set_option linter.all false
set_option maxRecDepth 100000
set_option maxHeartbeats 4000000
namespace Go.Proofs.YtajfdjikimiapaaGreatDoor
section
open Go.RowKit Mist
attribute [local go_sem] au aN aV aM aG
section
variable {g:Nat} {tv:Value} {l:List Tok} {en:Int} {iv:Value} (hF:PF l)
include hF
theorem Tt (m:Nat)(C:∀ f,f≤m→∀ j,isFn j=true→IC g tv l en iv f j)(CL:∀ f,f≤m→∀ e,LC g tv l en iv f e):IC g tv l en iv (m+1) .post:=by
 intro w k xs nv r h hk hn hw W;have H:=O h;clear h;have I:=O (At.refl H.o);have T:=O hw;clear hw;have hn0:(aj xs).length≤k:=by rw [bW];exact hn
 have hlen:=hF.len;rw [run] at W
 unfold pY;go_enter Tryz.func244,Tryz.ntmps244
 have pF:=O W;clear W;rcases dO pF.o with ⟨M,k1,dG,G,hr1⟩ | ⟨kb1,G,rfl⟩
 rotate_left
 ·have E:=O G;clear G;go_wp2_with fail;refine (C m (aiv _) .atom rfl _ k _ _ _ I.o.ps (by omega) (by rw [I.o.len];omega) (by rw [I.o.ns];exact T.o) (by rw [I.o.ns];exact E.o)).mono ?_;rintro e w1⟨rfl,hb1⟩;unfold aX;go_wp2_with fail;exact⟨rfl,bG.bad rfl ((H.o.low I.o.mv).trans hb1)⟩
 have E:=O G;clear G;have HR1:=O hr1;clear hr1 pF;go_wp2_with fail;refine (C m (aiv _) .atom rfl _ k _ _ _ I.o.ps (by omega) (by rw [I.o.len];omega) (by rw [I.o.ns];exact T.o) (by rw [I.o.ns];exact E.o)).mono ?_;rintro e w1⟨rfl,ext1,nV,ha1⟩;have t:=O (dU E.o (by omega) T.o (Ids.nil _) (by simp));have gl1:=t.o.lo;have gf1:=t.o.few;have ge1:=t.o.le;have gn1:=t.o.len;simp only [Job.reads] at gl1
 have adU:=O t.o.wf;have u:=O (I.o.trans ha1);skip;clear ha1;have R:=O (show run l en m (.qh (hd M)) k1 (aj (xs ++ ([] ++ ext1)))=some r by rw [u.o.ns];exact HR1.o);have HWL:=O (show Wf (aj (xs ++ ([] ++ ext1))) by rw [u.o.ns];exact adU.o);have Jc:=O (show 0≤hd M∧hd M < ((xs ++ ([] ++ ext1)).length:Int) by rw [u.o.len];exact t.o.hd);have IJ:=O (show At g tv l en iv w xs nv k1 (aj (xs ++ ([] ++ ext1))) w1 ([] ++ ext1) nV by rw [u.o.ns];exact u.o);have hcn:(xs ++ ([] ++ ext1)).length≤k1:=by rw [u.o.len];omega
 obtain⟨d,hav⟩:∃ d,d=hd M:=⟨_,rfl⟩;rw [← hav] at R Jc ⊢
 clear hav;go_wp2_with fail;go_loopw [3] (fun a wr=>∃ (f c:Nat) (ext:List NV) (l7:Value) (d:Int),a=.int .i64 d∧f≤m∧c≤l.length∧(xs ++ ext).length≤c∧Hid (run l en f (.qh d) c (aj (xs ++ ext))=some r)∧Hid (Wf (aj (xs ++ ext)))∧Hid (0≤d∧d < ((xs ++ ext).length:Int))∧Hid (At g tv l en iv w xs nv c (aj (xs ++ ext)) wr ext l7)) (fun _ wr=>uT g l.length wr)
 case atStart=>exact⟨m,k1,[] ++ ext1,nV,d,rfl,aiv _,ge1,hcn,R,HWL,Jc,IJ⟩
 case round =>
  clear R HWL Jc IJ hcn u HR1 E t gl1 gf1 ge1 gn1 adU;obtain⟨f,c,ext,l7,d,rfl,hfm,hk',hn',vC,Co,Jc,HA⟩:=hrel
  obtain⟨f,rfl⟩:∃ f0,f=f0+1:=⟨f - 1,by
   rcases Nat.eq_zero_or_pos f with h | h
   ·subst h;have:=vC.o;rw [run] at this;cases this
   ·omega⟩
  have HMS:=O (HA.o.ps.uT (n:=l.length));have hnl:(aj (xs ++ ext)).length≤c:=by rw [bW];exact hn'
  have W:=vC.o;rw [run] at W;have pF:=O W;clear W vC
  have adD:=O (show 0≤d∧d < ((aj (xs ++ ext)).length:Int) by rw [bW];exact Jc.o);go_wp2_with fail;refine (gY g tv l en iv _ c _ _ HA.o.ps (by omega) hlen).mono ?_;rintro e w2⟨rfl,hb2⟩;have HA2:=O (HA.o.below hb2);clear HA;clear hb2;have uU:=O (aZ.new w2 131 #[.int .u8 (tg l c).kind,.string (aU (tx l c)),.int .i64 (pl l en c)]);have vw:=O (HA2.o.alloc (.cells #[.int .u8 (tg l c).kind,.string (aU (tx l c)),.int .i64 (pl l en c)] 131));clear HA2;rcases fH pF.o with ⟨zJ,F⟩ | ⟨zJ,F⟩
  ·skip;have hlt3:=dM zJ (by simp);have LM:=O zJ;clear zJ;have J:=O F;clear F;go_wp2_with fail;refine (jc g tv l en iv hF [46] (.inr (by decide +kernel)) _ c _ _ vw.o.ps (by omega) LM.o).mono ?_;rintro e w4⟨rfl,p4,m4⟩;have A:=O (vw.o.ps.bH m4 uU.o);clear uU;have q:=O (vw.o.step p4 m4);clear vw;clear p4 m4;have hzA:=q.o.mv.size;rcases eO J.o with ⟨uP,J9⟩ | ⟨uP,rfl⟩
   rotate_left
   ·have Jb:=O uP;clear uP;have eB:=A.o.cell 0;have eG:=A.o.cell 1;have eH:=A.o.cell 2;have sl0:=A.o.lt;go_wp2_with fail;refine wp_region_held_drew (S:=fun w'=>w'.cell? ⟨w2.heap.size,0,none⟩=some (.int .u8 (tg l c).kind)∧w'.cell? ⟨w2.heap.size,1,none⟩=some (.string (aU (tx l c)))∧w'.cell? ⟨w2.heap.size,2,none⟩=some (.int .i64 (pl l en c))) (by kernel_rfl) ⟨eB,eG,eH⟩ (fun i=>?_);refine aO 0 rfl i ?_;simp only [Act.put,ail,ain,aio];refine aO 1 rfl i ?_;simp only [Act.put,ail,ain,aio];refine aO 2 rfl i ?_;simp only [Act.put,ail,ain,aio];refine aO 5 rfl i ?_;simp only [Act.put,ail,ain,aio];refine wpAnyH_ready (rs:=[3,6]) (by kernel_rfl) (by simp) ?_;refine TS (.s (.s (.s .z))) (.s (.s (.s (.s (.s (.s .z)))))) (fun K hK=>?_) (fun K hK=>?_)
    ·go_simp;refine (kX g tv l en iv hF _ (c+1) _ _ q.o.ps.drew (by omega) Jb.o).mono ?_;rintro e w5⟨rfl,V⟩;unfold aX;go_wp2_with fail;exact⟨rfl,bG.bad rfl ((Below.drew (H.o.low q.o.mv)).trans (V.mono (aiw q.o.ps.lt)))⟩
    go_simp;refine hK.out _ _ ?_ (fun GY=>?_)
    ·go_keep
    (try simp only [Act.put,ail,ain,aio])
    refine wpAnyH_ready (rs:=[3]) (by kernel_rfl) (by simp) ?_;refine fO (.s (.s (.s .z))) (fun K hK=>?_);go_simp;refine (kX g tv l en iv hF _ (c+1) _ _ (q.o.ps.drew.alloc _) (by omega) Jb.o).mono ?_;rintro e w5⟨rfl,V⟩;unfold aX;go_wp2_with fail;exact⟨rfl,bG.bad rfl ((aF (Below.drew (H.o.low q.o.mv)) (aiw q.o.ps.lt)).trans (V.mono (aiw (q.o.ps.drew.alloc _).lt)))⟩
   have ac1:=lq uP (by simp);have Jb:=O uP;clear uP;have uM:=O J9;clear J9 J;have tf1:=nA;have eB:=A.o.cell 0;have eG:=A.o.cell 1;have eH:=A.o.cell 2;have sl0:=A.o.lt;go_wp2_with fail
   go_region_held3 (fun w'=>w'.cell? ⟨w2.heap.size,0,none⟩=some (.int .u8 (tg l c).kind)∧w'.cell? ⟨w2.heap.size,1,none⟩=some (.string (aU (tx l c)))∧w'.cell? ⟨w2.heap.size,2,none⟩=some (.int .i64 (pl l en c)))
    (first | go_keep|(go_split_ands;refine⟨?_,?_,?_⟩ <;> assumption))
    (first
     | (go_at_call 194;(with_reducible refine (jy g tv l en iv hF _ (c+1) _ _ q.o.ps.drew (by omega) Jb.o).mono ?_);rintro e w5⟨rfl,p5,P⟩;unfold g_;have B:=O (q.o.drew.step p5 P);have y:=q.o.ps.drew.bH P A.o.drew;have sV:=y.cell 0;have sW:=y.cell 1;have sZ:=y.cell 2;have Wy:=y.lt;have wL:=O y;clear y;have hz5:=B.o.mv.size;clear p5 P)
     | (go_at_call 194;(with_reducible refine (jy g tv l en iv hF _ (c+1) _ _ ((q.o.ps.alloc (.cells #[.int .i64 (d)] 3)).drew) (by omega) Jb.o).mono ?_);rintro e w5⟨rfl,p5,P⟩;unfold g_;have B:=O ((At.alloc q.o (.cells #[.int .i64 (d)] 3)).drew.step p5 P);have nP:=O ((q.o.ps.alloc (.cells #[.int .i64 (d)] 3)).drew.Oc P (own_below (qc _ (d)) (Below.drew (Below.refl _ _))));have y:=P.blk ((A.o.alloc (.cells #[.int .i64 (d)] 3)).drew) ((q.o.ps.alloc (.cells #[.int .i64 (d)] 3)).drew.tag ((A.o.alloc (.cells #[.int .i64 (d)] 3)).drew) (by decide) (by decide)).1 ((q.o.ps.alloc (.cells #[.int .i64 (d)] 3)).drew.tag ((A.o.alloc (.cells #[.int .i64 (d)] 3)).drew) (by decide) (by decide)).2;have sV:=y.cell 0;have sW:=y.cell 1;have sZ:=y.cell 2;have Wy:=y.lt;have wL:=O y;clear y;have hz5:=B.o.mv.size;clear p5 P)
     | (go_at_call 196;have TA:=fV g tv l en iv (aj (xs ++ ext)).length 22 (.int .u8 (tg l c).kind) (.string (aU (tx l c))) (pl l en c) (tx l (c+1)) 0 _ [d] _ ((c+1)+1) _ _ B.o.ps nP.o B.o.len (by omega);(refine TA.mono ?_);clear TA;rintro e w6⟨rfl,nv6,p6,Y⟩;have N:=B.o.ps.bH Y wL.o;have tC:=N.cell 0;have tF:=N.cell 1;have tH:=N.cell 2;clear N;have Z:=O (B.o.add p6 Y (by intro b hb;simp [Value.ownBlock] at hb;omega));clear p6 Y)
     | (go_at_call 196;have TA:=fV g tv l en iv (aj (xs ++ ext)).length 22 (.int .u8 (tg l c).kind) (.string (aU (tx l c))) (pl l en c) (tx l (c+1)) 0 _ [d] _ ((c+1)+1) _ _ (B.o.ps.alloc (.cells #[.int .i64 (d)] 3)) (qc w5 (d)) B.o.len (by omega);(refine TA.mono ?_);clear TA;rintro e w6⟨rfl,nv6,p6,Y⟩;have N:=Y.blk (wL.o.alloc _) (B.o.ps.tag wL.o (by decide) (by decide)).1 (B.o.ps.tag wL.o (by decide) (by decide)).2;have tC:=N.cell 0;have tF:=N.cell 1;have tH:=N.cell 2;clear N;have Z:=O ((At.alloc B.o _).add p6 Y (by intro b hb;simp [Value.ownBlock] at hb;omega));clear p6 Y))
   all_goals
    go_wp2_with fail;have JY:=Z.o.len;have QX:=O JY;clear JY
    refine⟨⟨f,((c+1)+1),_,_,(((aj (xs ++ ext)).length:Nat):Int),rfl,by omega,by omega,by rw [QX.o];simp only [aiA,aiF];omega,O (by rw [Z.o.ns];exact uM.o),O (by rw [Z.o.ns];exact Co.o.add (Ids.cons adD.o (Ids.nil _))),O (by rw [QX.o];simp only [aiA,aiF];omega),O (by rw [Z.o.ns];exact Z.o)⟩,?_⟩
    rw [HMS.o,Z.o.ps.uT];omega
  ·skip;have LM:=O zJ;clear zJ;have J:=O F;clear F;go_wp2_with fail;refine (kP g tv l en iv hF [46] (.inr (by decide +kernel)) _ c _ _ vw.o.ps (by omega) LM.o).mono ?_;rintro e w7⟨rfl,om⟩;have jE:=O (uU.o.below om uU.o.lt);clear uU;have qY:=O (vw.o.below om);clear vw;clear om;rcases fH J.o with ⟨x,Qf⟩ | ⟨x,Qf⟩
   ·skip;have ahQ:=dM x (by simp);have Q:=O x;clear x;have Fb:=O Qf;clear Qf;go_wp2_with fail;refine (jc g tv l en iv hF [91] (.inr (by decide +kernel)) _ c _ _ qY.o.ps (by omega) Q.o).mono ?_;rintro e w9⟨rfl,p9,m9⟩;have mM:=O (qY.o.ps.bH m9 jE.o);clear jE;have D:=O (qY.o.step p9 m9);clear qY;clear p9 m9;rcases dO Fb.o with ⟨agr,L,aeS,Xo,J3⟩ | ⟨ahX,Xo,rfl⟩
    rotate_left
    ·have ZJ:=O Xo;clear Xo;go_wp2_with fail;refine (C f (by omega) .expr rfl _ (c+1) _ _ _ D.o.ps (by omega) (by rw [D.o.len];omega) (by rw [D.o.ns];exact Co.o) (by rw [D.o.ns];exact ZJ.o)).mono ?_;rintro e w10⟨rfl,WT⟩;unfold aX;go_wp2_with fail;exact⟨rfl,bG.bad rfl ((H.o.low D.o.mv).trans WT)⟩
    have ZJ:=O Xo;clear Xo;have Jh:=O J3;clear J3 Fb;go_wp2_with fail;refine (C f (by omega) .expr rfl _ (c+1) _ _ _ D.o.ps (by omega) (by rw [D.o.len];omega) (by rw [D.o.ns];exact Co.o) (by rw [D.o.ns];exact ZJ.o)).mono ?_;rintro e w10⟨rfl,ag3,aeT,U⟩;have QU:=O (dU ZJ.o (by omega) Co.o (Ids.nil _) (by simp));have afO:=QU.o.lo;have ahv:=QU.o.few;have ahn:=QU.o.le;have ahD:=QU.o.len;simp only [Job.reads] at afO
    have mU:=O (U.blk D.o.ps mM.o (by decide) (by decide));clear mM;have adV:=O QU.o.wf;have qZ:=O (D.o.trans U);clear D;clear U;rcases dI Jh.o with ⟨zC,J4⟩ | ⟨zC,rfl⟩
    rotate_left
    ·have Mi:=O zC;clear zC;go_wp2_with fail;refine (gy g tv l en iv hF [93] (.inr (by decide +kernel)) _ L _ _ qZ.o.ps (by omega) Mi.o).mono ?_;rintro e w11⟨rfl,WU⟩;unfold aX;go_wp2_with fail;exact⟨rfl,bG.bad rfl ((H.o.low qZ.o.mv).trans (WU.mono (aiw qZ.o.ps.lt)))⟩
    have Ra:=O J4;clear J4 Jh;have aem:=dM zC (by simp);have Mi:=O zC;clear zC;go_wp2_with fail;refine (eu g tv l en iv hF [93] (.inr (by decide +kernel)) _ L _ _ qZ.o.ps (by omega) Mi.o).mono ?_;rintro e w11⟨rfl,p11,X⟩;have mV:=O (qZ.o.ps.bH X mU.o);clear mU;have nQ:=O (qZ.o.step p11 X);clear qZ;clear p11 X;have eB:=mV.o.cell 0;have eG:=mV.o.cell 1;have eH:=mV.o.cell 2;have sl0:=mV.o.lt;go_wp2_with fail;refine (fV g tv l en iv aeS.length 23 _ _ _ [] 0 _ [d,hd agr] _ (L+1) _ _ (nQ.o.alloc _).ps (BN _ _ _) nQ.o.len (by omega)).mono ?_;rintro e w12⟨rfl,agG,p12,m12⟩;have hzz:=nQ.o.mv.size;have qE:=O ((nQ.o.alloc _).add p12 m12 (by intro b hb;simp [Value.ownBlock] at hb;omega));clear p12 m12;go_wp2_with fail;have JY:=qE.o.len;have QX:=O JY;clear JY
    refine⟨⟨f,(L+1),_,_,((aeS.length:Nat):Int),rfl,by omega,by omega,by rw [QX.o];simp only [aiA,aiF];omega,O (by rw [qE.o.ns];exact Ra.o),O (by rw [qE.o.ns];exact adV.o.add (Ids.cons (by have:=adD.o;omega) (Ids.cons QU.o.hd (Ids.nil _)))),O (by rw [QX.o];simp only [aiA,aiF];omega),O (by rw [qE.o.ns];exact qE.o)⟩,?_⟩
    rw [HMS.o,qE.o.ps.uT];omega
   ·skip;have Q:=O x;clear x;have Fb:=O Qf;clear Qf;go_wp2_with fail;refine (kP g tv l en iv hF [91] (.inr (by decide +kernel)) _ c _ _ qY.o.ps (by omega) Q.o).mono ?_;rintro e w13⟨rfl,NG⟩;have rz:=O (jE.o.below NG jE.o.lt);clear jE;have nG:=O (qY.o.below NG);clear qY;clear NG;have HST:=O (aiB Fb.o).symm;go_wp2_with fail;go_ret;rw [HST.o];exact bG.ok rfl nG.o
end
end
section
open Go.RowKit Mist
section
variable {g:Nat} {tv:Value} {l:List Tok} {en:Int} {iv:Value} (hF:PF l)
include hF
theorem Fg (m:Nat):(∀ f,f≤m→∀ j,isFn j=true→IC g tv l en iv f j)∧(∀ f,f≤m→∀ e,LC g tv l en iv f e):=by
 induction m with
 | zero =>
  constructor
  ·intro f a j _ w k xs nv r _ _ _ _ d;obtain rfl:f=0:=by omega
   rw [run] at d;cases d
  ·intro f a e w k xs nv r _ _ _ _ d;obtain rfl:f=0:=by omega
   rw [run] at d;cases d
 | succ m o =>
  obtain⟨C,b⟩:=o
  have n:∀ e,LC g tv l en iv (m+1) e:=by
   intro e
   cases e with
   | expr=>exact Hy hF .expr m fun f a=>C f a _ rfl
   | put=>exact Hy hF .put m fun f a=>C f a _ rfl
   | param=>exact Hy hF .param m fun f a=>C f a _ rfl
  have i:∀ j,isFn j=true→IC g tv l en iv (m+1) j:=by
   intro j c
   cases j with
   | expr=>exact Tq hF m C b
   | post=>exact Tt hF m C b
   | atom=>exact Tp hF m C b
   | put=>exact Yp hF m C b
   | param=>exact OA hF m C b
   | typ=>exact Yr hF m C b
   | lv v =>
    cases v with
    | or=>exact aa_ hF m fun f a=>C f a _ rfl
    | and=>exact Ym hF m fun f a=>C f a _ rfl
    | not=>exact Qv hF (.lv .not) (.lv .cmp) [110,111,116] (.inl ⟨rfl,rfl,rfl⟩) (.inl (by decide +kernel)) m (C m (aiv _) _ rfl) (C m (aiv _) _ rfl)
    | cmp=>exact Yo hF m fun f a=>C f a _ rfl
    | sum=>exact Yq hF m fun f a=>C f a _ rfl
    | term=>exact Tv hF m fun f a=>C f a _ rfl
    | unary=>exact Qv hF (.lv .unary) .post [45] (.inr ⟨rfl,rfl,rfl⟩) (.inr (by decide +kernel)) m (C m (aiv _) _ rfl) (C m (aiv _) _ rfl)
   | tail _ _=>cases c
   | qh _=>cases c
   | list _=>cases c
   | lC _ _=>cases c
  constructor
  ·intro f a j c;rcases Nat.lt_or_ge f (m+1) with h | h
   ·exact C f (by omega) j c
   ·obtain rfl:f=m+1:=by omega
    exact i j c
  ·intro f a e;rcases Nat.lt_or_ge f (m+1) with h | h
   ·exact b f (by omega) e
   ·obtain rfl:f=m+1:=by omega
    exact n e
theorem ni (m:Nat)(j:Job)(a:isFn j=true):IC g tv l en iv m j:=(Fg hF m).1 m (aiv _) j a
theorem ng (m:Nat)(e:El):LC g tv l en iv m e:=(Fg hF m).2 m (aiv _) e
end
theorem FN {l:List Tok}{en:Int}:∀ (n:Nat) (e:El) (a:List Int) (k:Nat) (ns:List Nd) (b:List Int) (c:Nat) (d:List Nd),k≤l.length→Wf ns→run l en n (.lC e a) k ns=some (.ok b c d)→b.length+k≤a.length+c
 | 0,_,_,_,_,_,_,_,_,_,h=>by rw [run] at h;cases h
 | n+1,e,a,k,ns,b,c,d,hk,hw,h=>by
  rw [run] at h
  by_cases f:tx l k=[44]
  ·have m:=dM f (by simp);rw [if_pos f] at h
   rcases dO h with ⟨i,q,r,j,o⟩ | ⟨kb,j,h2⟩
   ·have g:=dU j (by omega) hw (by cases e <;> exact Ids.nil _) (by cases e <;> simp [El.job]);have h3:=FN n e (a ++ [hd i]) q r b c d g.le g.wf o;have h4:=g.lo;rw [aiA] at h3
    simp only [aiF] at h3
    omega
   ·cases h2
  ·rw [if_neg f] at h
   injection h with h;injection h with h1 h2 h3
   subst h1 h2;omega
theorem XQ {l:List Tok}{en:Int}{n:Nat}{e:El}{k:Nat}{ns:List Nd}{a:List Int}{b:Nat}{d:List Nd}(i:k≤l.length)(m:Wf ns)(h:run l en n (.list e) k ns=some (.ok a b d)):a.length≤b:=by
 cases n with
 | zero=>rw [run] at h;cases h
 | succ n =>
  rw [run] at h
  rcases dO h with ⟨c,o,q,f,j⟩ | ⟨kb,f,h2⟩
  ·have g:=dU f i m (by cases e <;> exact Ids.nil _) (by cases e <;> simp [El.job]);have h3:=FN n e [hd c] o q a b d g.le g.wf j;have h4:=g.lo;have h5:e.job.reads=1:=by cases e <;> rfl
   simp only [aiF] at h3
   omega
  ·cases h2
theorem XG {w:World}{base q:Nat}{v:Value}{a:List Int}(b:a.length=q)(h:w.ownsRow base 3 1 v q (intCells a)):gX w v a:=by
 subst b;exact iC h (fun _ _=>aix _)
theorem ne_nil {ext:List NV}:∀ x ∈ ext,x.2.ownBlock=none∨x.2.ownBlock ≠ (Value.slice none 0 0).ownBlock:=fun x _=>by
 rcases h:x.2.ownBlock with _ | b
 ·exact .inl rfl
 ·exact .inr (by simp [Value.ownBlock])
theorem BO {ext c:List NV}{w:World}{v:Value}(h:∀ x ∈ ext,x.2.ownBlock=none∨x.2.ownBlock ≠ v.ownBlock)(d:nY w c)(hv:∀ b,v.ownBlock=some b→b < w.heap.size):∀ x ∈ ext ++ c,x.2.ownBlock=none∨x.2.ownBlock ≠ v.ownBlock:=fun x a=>by
 rcases List.mem_append.1 a with a | a
 ·exact h x a
 ·exact JO d a hv
theorem xC {g:Nat}{tv:Value}{l:List Tok}{en:Int}{iv:Value}{w1:World}{k:Nat}{xs ext:List NV}{nv:Value}{v:Value}{a:Nat}(p:PS g tv l en iv w1 k (xs ++ ext) nv)(h:∀ x ∈ ext,x.2.ownBlock=none∨x.2.ownBlock ≠ v.ownBlock)(d:v.ownBlock=some a∨a=w1.heap.size+1)(q c:Nat):∀ x ∈ ext,x.2.ownBlock=none∨x.2.ownBlock ≠ (Value.slice (some ⟨a,0,none⟩) q c).ownBlock:=fun x i=>by
 show x.2.ownBlock=none∨x.2.ownBlock ≠ some a
 rcases d with e | e
 ·rw [← e];exact h x i
 ·rcases h9:x.2.ownBlock with _ | b
  ·exact .inl rfl
  ·right
   intro f;injection f with f
   have:=(World.ownsRow.lt (p.kids x (List.mem_append_right _ i)) b h9).2
   omega
theorem kV {w c:World}{o:Obj}{T e s n b:Nat}{v:Value}{i:List Value}{base:Nat}{cs:Array Value}(a:aZ w b T cs)(h:w.ownsRow base e s v n i)(f:(w.alloc o).grownBy c v.ownBlock)(hd:e ≠ T):aZ c b T cs :=
 (a.alloc o).grown f (fun d=>bJ h a hd d.symm)
theorem abn (x y:Bs)(h:x=y):(x == y)=true:=by simp [h]
theorem UH (x y:Bs)(h:¬ x=y):(x == y)=false:=by simp [h]
def AP:List (Bs × Value):=[([109,117,115,116],.int .i64 1),([109,97,121],.int .i64 2),([99,111,117,110,116],.int .i64 3),([98,111,117,110,100,115],.int .i64 4),([118,97,108,117,101,115],.int .i64 5),([119,104,121],.int .i64 6),([98,108,97,109,101],.int .i64 7),([108,111,111,107],.int .i64 8)]
theorem Yv (x:Bs):(oW x AP).getD (.int .i64 0)=.int .i64 (nD x:Nat):=by
 simp only [AP,oW,nD];(repeat' split) <;> rfl
theorem XR (w:World)(m c:Nat)(a:w.heap[m]? = some (.map (iJ AP 0).toArray c))(x:Bs):(Instr.lookup 207 (.map (some m)) (.string (aU x)) false).run Tryz.prog w=.ok (.int .i64 (nD x:Nat)) w:=by
 have h:=DF 207 3 (.int .i64 0) Tryz.underlying207 w (Y9 w) AP m c a x false;rw [h,Yv];rfl
theorem KO (w:World):Calls Tryz.prog 203 #[] w fun e b=>e=.returned (.map (some w.heap.size))∧b=w.alloc (.map (iJ AP 0).toArray 8):=by
 have a:=@run_makeMap Tryz.prog;have c:(Instr.mapUpdate 207 (.map (some w.heap.size)) (.string ⟨#[109,117,115,116]⟩) (.int .i64 1)).run Tryz.prog (w.alloc (.map #[] 0))=.ok () (w.alloc (.map (iJ [([109,117,115,116],.int .i64 1)] 0).toArray 1)):=dX 207 3 Tryz.underlying207 w [] [109,117,115,116] (.int .i64 1) (by decide +kernel);have d:(Instr.mapUpdate 207 (.map (some w.heap.size)) (.string ⟨#[109,97,121]⟩) (.int .i64 2)).run Tryz.prog (w.alloc (.map (iJ [([109,117,115,116],.int .i64 1)] 0).toArray 1))=.ok () (w.alloc (.map (iJ [([109,117,115,116],.int .i64 1),([109,97,121],.int .i64 2)] 0).toArray 2)):=dX 207 3 Tryz.underlying207 w [([109,117,115,116],.int .i64 1)] [109,97,121] (.int .i64 2) (by decide +kernel);have f:(Instr.mapUpdate 207 (.map (some w.heap.size)) (.string ⟨#[99,111,117,110,116]⟩) (.int .i64 3)).run Tryz.prog (w.alloc (.map (iJ [([109,117,115,116],.int .i64 1),([109,97,121],.int .i64 2)] 0).toArray 2))=.ok () (w.alloc (.map (iJ [([109,117,115,116],.int .i64 1),([109,97,121],.int .i64 2),([99,111,117,110,116],.int .i64 3)] 0).toArray 3)):=dX 207 3 Tryz.underlying207 w [([109,117,115,116],.int .i64 1),([109,97,121],.int .i64 2)] [99,111,117,110,116] (.int .i64 3) (by decide +kernel);have h:(Instr.mapUpdate 207 (.map (some w.heap.size)) (.string ⟨#[98,111,117,110,100,115]⟩) (.int .i64 4)).run Tryz.prog (w.alloc (.map (iJ [([109,117,115,116],.int .i64 1),([109,97,121],.int .i64 2),([99,111,117,110,116],.int .i64 3)] 0).toArray 3))=.ok () (w.alloc (.map (iJ [([109,117,115,116],.int .i64 1),([109,97,121],.int .i64 2),([99,111,117,110,116],.int .i64 3),([98,111,117,110,100,115],.int .i64 4)] 0).toArray 4)):=dX 207 3 Tryz.underlying207 w [([109,117,115,116],.int .i64 1),([109,97,121],.int .i64 2),([99,111,117,110,116],.int .i64 3)] [98,111,117,110,100,115] (.int .i64 4) (by decide +kernel);have i:(Instr.mapUpdate 207 (.map (some w.heap.size)) (.string ⟨#[118,97,108,117,101,115]⟩) (.int .i64 5)).run Tryz.prog (w.alloc (.map (iJ [([109,117,115,116],.int .i64 1),([109,97,121],.int .i64 2),([99,111,117,110,116],.int .i64 3),([98,111,117,110,100,115],.int .i64 4)] 0).toArray 4))=.ok () (w.alloc (.map (iJ [([109,117,115,116],.int .i64 1),([109,97,121],.int .i64 2),([99,111,117,110,116],.int .i64 3),([98,111,117,110,100,115],.int .i64 4),([118,97,108,117,101,115],.int .i64 5)] 0).toArray 5)):=dX 207 3 Tryz.underlying207 w [([109,117,115,116],.int .i64 1),([109,97,121],.int .i64 2),([99,111,117,110,116],.int .i64 3),([98,111,117,110,100,115],.int .i64 4)] [118,97,108,117,101,115] (.int .i64 5) (by decide +kernel);have j:(Instr.mapUpdate 207 (.map (some w.heap.size)) (.string ⟨#[119,104,121]⟩) (.int .i64 6)).run Tryz.prog (w.alloc (.map (iJ [([109,117,115,116],.int .i64 1),([109,97,121],.int .i64 2),([99,111,117,110,116],.int .i64 3),([98,111,117,110,100,115],.int .i64 4),([118,97,108,117,101,115],.int .i64 5)] 0).toArray 5))=.ok () (w.alloc (.map (iJ [([109,117,115,116],.int .i64 1),([109,97,121],.int .i64 2),([99,111,117,110,116],.int .i64 3),([98,111,117,110,100,115],.int .i64 4),([118,97,108,117,101,115],.int .i64 5),([119,104,121],.int .i64 6)] 0).toArray 6)):=dX 207 3 Tryz.underlying207 w [([109,117,115,116],.int .i64 1),([109,97,121],.int .i64 2),([99,111,117,110,116],.int .i64 3),([98,111,117,110,100,115],.int .i64 4),([118,97,108,117,101,115],.int .i64 5)] [119,104,121] (.int .i64 6) (by decide +kernel);have k:(Instr.mapUpdate 207 (.map (some w.heap.size)) (.string ⟨#[98,108,97,109,101]⟩) (.int .i64 7)).run Tryz.prog (w.alloc (.map (iJ [([109,117,115,116],.int .i64 1),([109,97,121],.int .i64 2),([99,111,117,110,116],.int .i64 3),([98,111,117,110,100,115],.int .i64 4),([118,97,108,117,101,115],.int .i64 5),([119,104,121],.int .i64 6)] 0).toArray 6))=.ok () (w.alloc (.map (iJ [([109,117,115,116],.int .i64 1),([109,97,121],.int .i64 2),([99,111,117,110,116],.int .i64 3),([98,111,117,110,100,115],.int .i64 4),([118,97,108,117,101,115],.int .i64 5),([119,104,121],.int .i64 6),([98,108,97,109,101],.int .i64 7)] 0).toArray 7)):=dX 207 3 Tryz.underlying207 w [([109,117,115,116],.int .i64 1),([109,97,121],.int .i64 2),([99,111,117,110,116],.int .i64 3),([98,111,117,110,100,115],.int .i64 4),([118,97,108,117,101,115],.int .i64 5),([119,104,121],.int .i64 6)] [98,108,97,109,101] (.int .i64 7) (by decide +kernel);have m:(Instr.mapUpdate 207 (.map (some w.heap.size)) (.string ⟨#[108,111,111,107]⟩) (.int .i64 8)).run Tryz.prog (w.alloc (.map (iJ [([109,117,115,116],.int .i64 1),([109,97,121],.int .i64 2),([99,111,117,110,116],.int .i64 3),([98,111,117,110,100,115],.int .i64 4),([118,97,108,117,101,115],.int .i64 5),([119,104,121],.int .i64 6),([98,108,97,109,101],.int .i64 7)] 0).toArray 7))=.ok () (w.alloc (.map (iJ [([109,117,115,116],.int .i64 1),([109,97,121],.int .i64 2),([99,111,117,110,116],.int .i64 3),([98,111,117,110,100,115],.int .i64 4),([118,97,108,117,101,115],.int .i64 5),([119,104,121],.int .i64 6),([98,108,97,109,101],.int .i64 7),([108,111,111,107],.int .i64 8)] 0).toArray 8)):=dX 207 3 Tryz.underlying207 w [([109,117,115,116],.int .i64 1),([109,97,121],.int .i64 2),([99,111,117,110,116],.int .i64 3),([98,111,117,110,100,115],.int .i64 4),([118,97,108,117,101,115],.int .i64 5),([119,104,121],.int .i64 6),([98,108,97,109,101],.int .i64 7)] [108,111,111,107] (.int .i64 8) (by decide +kernel);go_in
 go_wp2_with fail;go_ret;exact⟨rfl,rfl⟩
def Br:It→Nat
 | .choose=>165
 | .record=>166
 | .Ny=>167
 | .Oj=>168
 | .observe=>169
 | .rO=>170
 | .ask=>171
def fv (n:Nat):Value:=.func (.func n) #[] #[]
def wZ:List (Bs × Value):=[([99,104,111,111,115,101],fv (Br .choose)),([116,121,112,101],fv (Br .record)),([102,117,110],fv (Br .Ny)),([108,101,116],fv (Br .Oj)),([111,98,115,101,114,118,101],fv (Br .observe)),([114,101,116,114,97,99,116],fv (Br .rO)),([97,115,107],fv (Br .ask))]
theorem Xv (x:Bs):oW x wZ=(Sy x).map fun i=>fv (Br i):=by
 simp only [wZ,oW,Sy];(repeat' split) <;> rfl
theorem SG (w:World):Calls Tryz.prog 144 #[] w fun e b=>e=.returned (.map (some w.heap.size))∧b=w.alloc (.map (iJ wZ 0).toArray 7):=by
 have a:=@run_makeMap Tryz.prog;have c:(Instr.mapUpdate 157 (.map (some w.heap.size)) (.string ⟨#[99,104,111,111,115,101]⟩) (.func (.func 165) #[] #[])).run Tryz.prog (w.alloc (.map #[] 0))=.ok () (w.alloc (.map (iJ [([99,104,111,111,115,101],.func (.func 165) #[] #[])] 0).toArray 1)):=dX 157 161 Tryz.underlying157 w [] [99,104,111,111,115,101] (.func (.func 165) #[] #[]) (by decide +kernel);have d:(Instr.mapUpdate 157 (.map (some w.heap.size)) (.string ⟨#[116,121,112,101]⟩) (.func (.func 166) #[] #[])).run Tryz.prog (w.alloc (.map (iJ [([99,104,111,111,115,101],.func (.func 165) #[] #[])] 0).toArray 1))=.ok () (w.alloc (.map (iJ [([99,104,111,111,115,101],.func (.func 165) #[] #[]),([116,121,112,101],.func (.func 166) #[] #[])] 0).toArray 2)):=dX 157 161 Tryz.underlying157 w [([99,104,111,111,115,101],.func (.func 165) #[] #[])] [116,121,112,101] (.func (.func 166) #[] #[]) (by decide +kernel);have f:(Instr.mapUpdate 157 (.map (some w.heap.size)) (.string ⟨#[102,117,110]⟩) (.func (.func 167) #[] #[])).run Tryz.prog (w.alloc (.map (iJ [([99,104,111,111,115,101],.func (.func 165) #[] #[]),([116,121,112,101],.func (.func 166) #[] #[])] 0).toArray 2))=.ok () (w.alloc (.map (iJ [([99,104,111,111,115,101],.func (.func 165) #[] #[]),([116,121,112,101],.func (.func 166) #[] #[]),([102,117,110],.func (.func 167) #[] #[])] 0).toArray 3)):=dX 157 161 Tryz.underlying157 w [([99,104,111,111,115,101],.func (.func 165) #[] #[]),([116,121,112,101],.func (.func 166) #[] #[])] [102,117,110] (.func (.func 167) #[] #[]) (by decide +kernel);have h:(Instr.mapUpdate 157 (.map (some w.heap.size)) (.string ⟨#[108,101,116]⟩) (.func (.func 168) #[] #[])).run Tryz.prog (w.alloc (.map (iJ [([99,104,111,111,115,101],.func (.func 165) #[] #[]),([116,121,112,101],.func (.func 166) #[] #[]),([102,117,110],.func (.func 167) #[] #[])] 0).toArray 3))=.ok () (w.alloc (.map (iJ [([99,104,111,111,115,101],.func (.func 165) #[] #[]),([116,121,112,101],.func (.func 166) #[] #[]),([102,117,110],.func (.func 167) #[] #[]),([108,101,116],.func (.func 168) #[] #[])] 0).toArray 4)):=dX 157 161 Tryz.underlying157 w [([99,104,111,111,115,101],.func (.func 165) #[] #[]),([116,121,112,101],.func (.func 166) #[] #[]),([102,117,110],.func (.func 167) #[] #[])] [108,101,116] (.func (.func 168) #[] #[]) (by decide +kernel);have i:(Instr.mapUpdate 157 (.map (some w.heap.size)) (.string ⟨#[111,98,115,101,114,118,101]⟩) (.func (.func 169) #[] #[])).run Tryz.prog (w.alloc (.map (iJ [([99,104,111,111,115,101],.func (.func 165) #[] #[]),([116,121,112,101],.func (.func 166) #[] #[]),([102,117,110],.func (.func 167) #[] #[]),([108,101,116],.func (.func 168) #[] #[])] 0).toArray 4))=.ok () (w.alloc (.map (iJ [([99,104,111,111,115,101],.func (.func 165) #[] #[]),([116,121,112,101],.func (.func 166) #[] #[]),([102,117,110],.func (.func 167) #[] #[]),([108,101,116],.func (.func 168) #[] #[]),([111,98,115,101,114,118,101],.func (.func 169) #[] #[])] 0).toArray 5)):=dX 157 161 Tryz.underlying157 w [([99,104,111,111,115,101],.func (.func 165) #[] #[]),([116,121,112,101],.func (.func 166) #[] #[]),([102,117,110],.func (.func 167) #[] #[]),([108,101,116],.func (.func 168) #[] #[])] [111,98,115,101,114,118,101] (.func (.func 169) #[] #[]) (by decide +kernel);have j:(Instr.mapUpdate 157 (.map (some w.heap.size)) (.string ⟨#[114,101,116,114,97,99,116]⟩) (.func (.func 170) #[] #[])).run Tryz.prog (w.alloc (.map (iJ [([99,104,111,111,115,101],.func (.func 165) #[] #[]),([116,121,112,101],.func (.func 166) #[] #[]),([102,117,110],.func (.func 167) #[] #[]),([108,101,116],.func (.func 168) #[] #[]),([111,98,115,101,114,118,101],.func (.func 169) #[] #[])] 0).toArray 5))=.ok () (w.alloc (.map (iJ [([99,104,111,111,115,101],.func (.func 165) #[] #[]),([116,121,112,101],.func (.func 166) #[] #[]),([102,117,110],.func (.func 167) #[] #[]),([108,101,116],.func (.func 168) #[] #[]),([111,98,115,101,114,118,101],.func (.func 169) #[] #[]),([114,101,116,114,97,99,116],.func (.func 170) #[] #[])] 0).toArray 6)):=dX 157 161 Tryz.underlying157 w [([99,104,111,111,115,101],.func (.func 165) #[] #[]),([116,121,112,101],.func (.func 166) #[] #[]),([102,117,110],.func (.func 167) #[] #[]),([108,101,116],.func (.func 168) #[] #[]),([111,98,115,101,114,118,101],.func (.func 169) #[] #[])] [114,101,116,114,97,99,116] (.func (.func 170) #[] #[]) (by decide +kernel);have k:(Instr.mapUpdate 157 (.map (some w.heap.size)) (.string ⟨#[97,115,107]⟩) (.func (.func 171) #[] #[])).run Tryz.prog (w.alloc (.map (iJ [([99,104,111,111,115,101],.func (.func 165) #[] #[]),([116,121,112,101],.func (.func 166) #[] #[]),([102,117,110],.func (.func 167) #[] #[]),([108,101,116],.func (.func 168) #[] #[]),([111,98,115,101,114,118,101],.func (.func 169) #[] #[]),([114,101,116,114,97,99,116],.func (.func 170) #[] #[])] 0).toArray 6))=.ok () (w.alloc (.map (iJ [([99,104,111,111,115,101],.func (.func 165) #[] #[]),([116,121,112,101],.func (.func 166) #[] #[]),([102,117,110],.func (.func 167) #[] #[]),([108,101,116],.func (.func 168) #[] #[]),([111,98,115,101,114,118,101],.func (.func 169) #[] #[]),([114,101,116,114,97,99,116],.func (.func 170) #[] #[]),([97,115,107],.func (.func 171) #[] #[])] 0).toArray 7)):=dX 157 161 Tryz.underlying157 w [([99,104,111,111,115,101],.func (.func 165) #[] #[]),([116,121,112,101],.func (.func 166) #[] #[]),([102,117,110],.func (.func 167) #[] #[]),([108,101,116],.func (.func 168) #[] #[]),([111,98,115,101,114,118,101],.func (.func 169) #[] #[]),([114,101,116,114,97,99,116],.func (.func 170) #[] #[])] [97,115,107] (.func (.func 171) #[] #[]) (by decide +kernel);go_in
 go_wp2_with fail;go_ret;exact⟨rfl,rfl⟩
end
section
open Go.RowKit Mist
attribute [local go_sem] au aN aV aM aG
section
variable {g:Nat} {tv:Value} {l:List Tok} {en:Int} {iv:Value} (hF:PF l)
include hF
theorem SF (m:Nat)(w:World)(k:Nat)(xs:List NV)(nv:Value)(r:kF)(h:PS g tv l en iv w (k+1) xs nv)(hk:k+1≤l.length)(hn:xs.length≤k)(hw:Wf (aj xs))(hr:iq l en m .Oj k (aj xs)=some r) :
  Calls Tryz.prog 168 #[.pointer (some ⟨g,0,none⟩),.agg #[.int .u8 (tg l k).kind,.string (aU (tx l k)),.int .i64 (pl l en k)]] w (bG g tv l en iv w xs nv r):=by
 have C:=fun (f:Nat) (_:f≤m) (j:Job) (hj:isFn j=true)=>ni (g:=g) (tv:=tv) (en:=en) (iv:=iv) hF f j hj
 have CL:=fun (f:Nat) (_:f≤m) (e:El)=>ng (g:=g) (tv:=tv) (en:=en) (iv:=iv) hF f e
 have H:=O h;clear h;have B:=O ((At.refl H.o).alloc (.cells #[.int .u8 (tg l k).kind,.string (aU (tx l k)),.int .i64 (pl l en k)] 131));have uL:=O (aZ.new w 131 #[.int .u8 (tg l k).kind,.string (aU (tx l k)),.int .i64 (pl l en k)]);have A:=O hw;clear hw;have hn0:(aj xs).length≤k:=by rw [bW];exact hn
 have hlen:=hF.len;unfold iq at hr
 have pF:=O hr;clear hr;go_in
 rcases eO pF.o with ⟨d,I⟩ | ⟨d,rfl⟩
 rotate_left
 ·have sK:=O d;clear d;go_wp2_with fail;refine (kX g tv l en iv hF _ (k+1) _ _ B.o.ps (by omega) sK.o).mono ?_;rintro e w1⟨rfl,Z⟩;unfold aX;go_wp2_with fail;exact⟨rfl,bG.bad rfl ((H.o.low B.o.mv).trans (Z.mono (aiw B.o.ps.lt)))⟩
 have F:=O I;clear I pF;have hlt1:=lq d (by simp);have sK:=O d;clear d;go_wp2_with fail;refine (jy g tv l en iv hF _ (k+1) _ _ B.o.ps (by omega) sK.o).mono ?_;rintro e w1⟨rfl,p1,m1⟩;have pR:=O (B.o.ps.bH m1 uL.o);clear uL;have E:=O (B.o.step p1 m1);clear B;clear p1 m1;unfold g_;have iW:=O (pR.o.alloc (.cells #[.int .u8 (tg l (k+1)).kind,.string (aU (tx l (k+1))),.int .i64 (pl l en (k+1))] 131));clear pR;have mO:=O (aZ.new w1 131 #[.int .u8 (tg l (k+1)).kind,.string (aU (tx l (k+1))),.int .i64 (pl l en (k+1))]);have u:=O (E.o.alloc (.cells #[.int .u8 (tg l (k+1)).kind,.string (aU (tx l (k+1))),.int .i64 (pl l en (k+1))] 131));clear E;rcases dI F.o with ⟨i,J⟩ | ⟨i,rfl⟩
 rotate_left
 ·have y:=O i;clear i;go_wp2_with fail;refine (gy g tv l en iv hF [61] (.inr (by decide +kernel)) _ ((k+1)+1) _ _ u.o.ps (by omega) y.o).mono ?_;rintro e w2⟨rfl,hb2⟩;unfold aX;go_wp2_with fail;exact⟨rfl,bG.bad rfl ((H.o.low u.o.mv).trans (hb2.mono (aiw u.o.ps.lt)))⟩
 have G:=O J;clear J F;have hlt2:=dM i (by simp);have y:=O i;clear i;go_wp2_with fail;refine (eu g tv l en iv hF [61] (.inr (by decide +kernel)) _ ((k+1)+1) _ _ u.o.ps (by omega) y.o).mono ?_;rintro e w2⟨rfl,p2,Q⟩;have q:=O (u.o.ps.bH Q iW.o);have M:=O (u.o.ps.bH Q mO.o);clear iW mO;have a:=O (u.o.step p2 Q);clear u;clear p2 Q;rcases dO G.o with ⟨Qk,k3,X0,n,L⟩ | ⟨kb3,n,rfl⟩
 rotate_left
 ·have V:=O n;clear n;have eB:=q.o.cell 0;have eG:=q.o.cell 1;have eH:=q.o.cell 2;have sl0:=q.o.lt;have qU:=M.o.cell 1;have sl1:=M.o.lt;go_wp2_with fail;refine wp_region_held_drew (S:=fun t=>t.cell? ⟨w.heap.size,0,none⟩=some (.int .u8 (tg l k).kind)∧t.cell? ⟨w.heap.size,1,none⟩=some (.string (aU (tx l k)))∧t.cell? ⟨w.heap.size,2,none⟩=some (.int .i64 (pl l en k))∧t.cell? ⟨w1.heap.size,1,none⟩=some (.string (aU (tx l (k+1))))) (by kernel_rfl) ⟨eB,eG,eH,qU⟩ (fun c=>?_);refine aO 0 rfl c ?_;simp only [Act.put,ail,ain,aio];refine aO 1 rfl c ?_;simp only [Act.put,ail,ain,aio];refine aO 2 rfl c ?_;simp only [Act.put,ail,ain,aio];refine aO 3 rfl c ?_;simp only [Act.put,ail,ain,aio];refine aO 4 rfl c ?_;simp only [Act.put,ail,ain,aio];refine wpAnyH_ready (rs:=[5]) (by kernel_rfl) (by simp) ?_;refine fO (.s (.s (.s (.s (.s .z))))) (fun K hK=>?_);go_simp;refine (C m (aiv _) .expr rfl _ (((k+1)+1)+1) _ _ _ a.o.ps.drew (by omega) (by rw [a.o.len];omega) (by rw [a.o.ns];exact A.o) (by rw [a.o.ns];exact V.o)).mono ?_;rintro e w3⟨rfl,hb3⟩;unfold aX;go_wp2_with fail;exact⟨rfl,bG.bad rfl ((Below.drew (H.o.low a.o.mv)).trans hb3)⟩
 have V:=O n;clear n;have X:=O L;clear L G;have N:=O (dU V.o (by omega) A.o (Ids.nil _) (by simp));have Y:=N.o.lo;have gf3:=N.o.few;have ge3:=N.o.le;have gn3:=N.o.len;simp only [Job.reads] at Y
 have eB:=q.o.cell 0;have eG:=q.o.cell 1;have eH:=q.o.cell 2;have sl0:=q.o.lt;have qU:=M.o.cell 1;have sl1:=M.o.lt;go_wp2_with fail
 go_region_held3 (fun t=>t.cell? ⟨w.heap.size,0,none⟩=some (.int .u8 (tg l k).kind)∧t.cell? ⟨w.heap.size,1,none⟩=some (.string (aU (tx l k)))∧t.cell? ⟨w.heap.size,2,none⟩=some (.int .i64 (pl l en k))∧t.cell? ⟨w1.heap.size,1,none⟩=some (.string (aU (tx l (k+1)))))
  (first | go_keep|(go_split_ands;refine⟨?_,?_,?_,?_⟩ <;> assumption))
  (first
   | (go_at_call 202;refine (C m (aiv _) .expr rfl _ (((k+1)+1)+1) _ _ _ a.o.ps.drew (by omega) (by rw [a.o.len];omega) (by rw [a.o.ns];exact A.o) (by rw [a.o.ns];exact V.o)).mono ?_;rintro e w3⟨rfl,aao,nv3,P⟩;have x:=O (a.o.drew.trans P);have D:=P.blk a.o.ps.drew q.o.drew (by decide) (by decide);have sV:=D.cell 0;have sW:=D.cell 1;have sZ:=D.cell 2;have Wy:=D.lt;have oF:=O D;clear D;have U:=P.blk a.o.ps.drew M.o.drew (by decide) (by decide);have Ww:=U.cell 1;have dl1:=U.lt;have W:=O U;clear U;have hz3:=x.o.mv.size;clear P)
   | (go_at_call 196;refine (fV g tv l en iv X0.length 43 _ _ _ (tx l (k+1)) 0 _ [hd Qk] _ k3 _ _ (x.o.ps.alloc _) (qc w3 (hd Qk)) x.o.len (by omega)).mono ?_;rintro e w4⟨rfl,U4,p4,R⟩;have T:=R.blk (oF.o.alloc _) (x.o.ps.tag oF.o (by decide) (by decide)).1 (x.o.ps.tag oF.o (by decide) (by decide)).2;have tC:=T.cell 0;have tF:=T.cell 1;have tH:=T.cell 2;clear T;have Jy:=R.blk (W.o.alloc _) (x.o.ps.tag W.o (by decide) (by decide)).1 (x.o.ps.tag W.o (by decide) (by decide)).2;have Wz:=Jy.cell 1;clear Jy;have gM:=O ((At.alloc x.o _).add p4 R (by intro b hb;simp [Value.ownBlock] at hb;omega));clear p4 R))
 all_goals
  obtain rfl:=dN X.o;go_wp2_with fail;go_ret;exact bG.ok rfl gM.o
end
section
variable {g:Nat} {tv:Value} {l:List Tok} {en:Int} {iv:Value} (hF:PF l)
include hF
theorem Hr (m:Nat)(w:World)(k:Nat)(xs:List NV)(nv:Value)(r:kF)(h:PS g tv l en iv w (k+1) xs nv)(hk:k+1≤l.length)(hn:xs.length≤k)(hw:Wf (aj xs))(hr:iq l en m .observe k (aj xs)=some r) :
  Calls Tryz.prog 169 #[.pointer (some ⟨g,0,none⟩),.agg #[.int .u8 (tg l k).kind,.string (aU (tx l k)),.int .i64 (pl l en k)]] w (bG g tv l en iv w xs nv r):=by
 have C:=fun (f:Nat) (_:f≤m) (j:Job) (hj:isFn j=true)=>ni (g:=g) (tv:=tv) (en:=en) (iv:=iv) hF f j hj
 have CL:=fun (f:Nat) (_:f≤m) (e:El)=>ng (g:=g) (tv:=tv) (en:=en) (iv:=iv) hF f e
 have H:=O h;clear h;have B:=O ((At.refl H.o).alloc (.cells #[.int .u8 (tg l k).kind,.string (aU (tx l k)),.int .i64 (pl l en k)] 131));have uL:=O (aZ.new w 131 #[.int .u8 (tg l k).kind,.string (aU (tx l k)),.int .i64 (pl l en k)]);have A:=O hw;clear hw;have hn0:(aj xs).length≤k:=by rw [bW];exact hn
 have hlen:=hF.len;unfold iq at hr
 have pF:=O hr;clear hr;go_in
 rcases eO pF.o with ⟨d,I⟩ | ⟨d,rfl⟩
 rotate_left
 ·have sK:=O d;clear d;go_wp2_with fail;refine (kX g tv l en iv hF _ (k+1) _ _ B.o.ps (by omega) sK.o).mono ?_;rintro e w1⟨rfl,Z⟩;unfold aX;go_wp2_with fail;exact⟨rfl,bG.bad rfl ((H.o.low B.o.mv).trans (Z.mono (aiw B.o.ps.lt)))⟩
 have F:=O I;clear I pF;have hlt1:=lq d (by simp);have sK:=O d;clear d;go_wp2_with fail;refine (jy g tv l en iv hF _ (k+1) _ _ B.o.ps (by omega) sK.o).mono ?_;rintro e w1⟨rfl,p1,m1⟩;have pR:=O (B.o.ps.bH m1 uL.o);clear uL;have E:=O (B.o.step p1 m1);clear B;clear p1 m1;unfold g_;have iW:=O (pR.o.alloc (.cells #[.int .u8 (tg l (k+1)).kind,.string (aU (tx l (k+1))),.int .i64 (pl l en (k+1))] 131));clear pR;have mO:=O (aZ.new w1 131 #[.int .u8 (tg l (k+1)).kind,.string (aU (tx l (k+1))),.int .i64 (pl l en (k+1))]);have u:=O (E.o.alloc (.cells #[.int .u8 (tg l (k+1)).kind,.string (aU (tx l (k+1))),.int .i64 (pl l en (k+1))] 131));clear E;rcases dI F.o with ⟨i,J⟩ | ⟨i,rfl⟩
 rotate_left
 ·have y:=O i;clear i;go_wp2_with fail;refine (gy g tv l en iv hF [58] (.inr (by decide +kernel)) _ ((k+1)+1) _ _ u.o.ps (by omega) y.o).mono ?_;rintro e w2⟨rfl,hb2⟩;unfold aX;go_wp2_with fail;exact⟨rfl,bG.bad rfl ((H.o.low u.o.mv).trans (hb2.mono (aiw u.o.ps.lt)))⟩
 have G:=O J;clear J F;have hlt2:=dM i (by simp);have y:=O i;clear i;go_wp2_with fail;refine (eu g tv l en iv hF [58] (.inr (by decide +kernel)) _ ((k+1)+1) _ _ u.o.ps (by omega) y.o).mono ?_;rintro e w2⟨rfl,p2,Q⟩;have q:=O (u.o.ps.bH Q iW.o);have M:=O (u.o.ps.bH Q mO.o);clear iW mO;have a:=O (u.o.step p2 Q);clear u;clear p2 Q;rcases dO G.o with ⟨Qk,k3,X0,n,L⟩ | ⟨kb3,n,rfl⟩
 rotate_left
 ·have V:=O n;clear n;have eB:=q.o.cell 0;have eG:=q.o.cell 1;have eH:=q.o.cell 2;have sl0:=q.o.lt;have qU:=M.o.cell 1;have sl1:=M.o.lt;go_wp2_with fail;refine wp_region_held_drew (S:=fun t=>t.cell? ⟨w.heap.size,0,none⟩=some (.int .u8 (tg l k).kind)∧t.cell? ⟨w.heap.size,1,none⟩=some (.string (aU (tx l k)))∧t.cell? ⟨w.heap.size,2,none⟩=some (.int .i64 (pl l en k))∧t.cell? ⟨w1.heap.size,1,none⟩=some (.string (aU (tx l (k+1))))) (by kernel_rfl) ⟨eB,eG,eH,qU⟩ (fun c=>?_);refine aO 0 rfl c ?_;simp only [Act.put,ail,ain,aio];refine aO 1 rfl c ?_;simp only [Act.put,ail,ain,aio];refine aO 2 rfl c ?_;simp only [Act.put,ail,ain,aio];refine aO 3 rfl c ?_;simp only [Act.put,ail,ain,aio];refine aO 4 rfl c ?_;simp only [Act.put,ail,ain,aio];refine wpAnyH_ready (rs:=[5]) (by kernel_rfl) (by simp) ?_;refine fO (.s (.s (.s (.s (.s .z))))) (fun K hK=>?_);go_simp;refine (C m (aiv _) .expr rfl _ (((k+1)+1)+1) _ _ _ a.o.ps.drew (by omega) (by rw [a.o.len];omega) (by rw [a.o.ns];exact A.o) (by rw [a.o.ns];exact V.o)).mono ?_;rintro e w3⟨rfl,hb3⟩;unfold aX;go_wp2_with fail;exact⟨rfl,bG.bad rfl ((Below.drew (H.o.low a.o.mv)).trans hb3)⟩
 have V:=O n;clear n;have X:=O L;clear L G;have N:=O (dU V.o (by omega) A.o (Ids.nil _) (by simp));have Y:=N.o.lo;have gf3:=N.o.few;have ge3:=N.o.le;have gn3:=N.o.len;simp only [Job.reads] at Y
 have eB:=q.o.cell 0;have eG:=q.o.cell 1;have eH:=q.o.cell 2;have sl0:=q.o.lt;have qU:=M.o.cell 1;have sl1:=M.o.lt;go_wp2_with fail
 go_region_held3 (fun t=>t.cell? ⟨w.heap.size,0,none⟩=some (.int .u8 (tg l k).kind)∧t.cell? ⟨w.heap.size,1,none⟩=some (.string (aU (tx l k)))∧t.cell? ⟨w.heap.size,2,none⟩=some (.int .i64 (pl l en k))∧t.cell? ⟨w1.heap.size,1,none⟩=some (.string (aU (tx l (k+1)))))
  (first | go_keep|(go_split_ands;refine⟨?_,?_,?_,?_⟩ <;> assumption))
  (first
   | (go_at_call 202;refine (C m (aiv _) .expr rfl _ (((k+1)+1)+1) _ _ _ a.o.ps.drew (by omega) (by rw [a.o.len];omega) (by rw [a.o.ns];exact A.o) (by rw [a.o.ns];exact V.o)).mono ?_;rintro e w3⟨rfl,aao,nv3,P⟩;have x:=O (a.o.drew.trans P);have D:=P.blk a.o.ps.drew q.o.drew (by decide) (by decide);have sV:=D.cell 0;have sW:=D.cell 1;have sZ:=D.cell 2;have Wy:=D.lt;have oF:=O D;clear D;have U:=P.blk a.o.ps.drew M.o.drew (by decide) (by decide);have Ww:=U.cell 1;have dl1:=U.lt;have W:=O U;clear U;have hz3:=x.o.mv.size;clear P)
   | (go_at_call 196;refine (fV g tv l en iv X0.length 44 _ _ _ (tx l (k+1)) 0 _ [hd Qk] _ k3 _ _ (x.o.ps.alloc _) (qc w3 (hd Qk)) x.o.len (by omega)).mono ?_;rintro e w4⟨rfl,U4,p4,R⟩;have T:=R.blk (oF.o.alloc _) (x.o.ps.tag oF.o (by decide) (by decide)).1 (x.o.ps.tag oF.o (by decide) (by decide)).2;have tC:=T.cell 0;have tF:=T.cell 1;have tH:=T.cell 2;clear T;have Jy:=R.blk (W.o.alloc _) (x.o.ps.tag W.o (by decide) (by decide)).1 (x.o.ps.tag W.o (by decide) (by decide)).2;have Wz:=Jy.cell 1;clear Jy;have gM:=O ((At.alloc x.o _).add p4 R (by intro b hb;simp [Value.ownBlock] at hb;omega));clear p4 R))
 all_goals
  obtain rfl:=dN X.o;go_wp2_with fail;go_ret;exact bG.ok rfl gM.o
end
end
