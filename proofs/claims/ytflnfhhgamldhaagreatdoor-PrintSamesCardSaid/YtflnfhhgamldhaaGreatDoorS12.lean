/-
  A part of the proof.
-/
import Derived.Test.YtflnfhhgamldhaaGreatDoorS10
import Derived.Test.YtflnfhhgamldhaaGreatDoorS11
set_option linter.all false
set_option maxRecDepth 100000
set_option maxHeartbeats 4000000
namespace Go.Proofs.YtflnfhhgamldhaaGreatDoor
section
open Go.RowKit Mist
attribute [local go_sem] ah aM aV au ak
section
variable {g:Nat} {tv:Value} {l:List Tok} {en:Int} {iv:Value} (hF:PF l)
include hF
theorem Vf (m:Nat)(C:∀ f,f≤m→∀ j,isFn j=true→IC g tv l en iv f j)(CL:∀ f,f≤m→∀ e,LC g tv l en iv f e):IC g tv l en iv (m+1) .post:=by
 intro w k xs nv r h hk hn hw W;have H:=O h;clear h;have G:=O (At.refl H.o);have T:=O hw;clear hw;have hn0:(aF xs).length≤k:=by rw [dL];exact hn
 have hlen:=hF.len;rw [run] at W
 unfold ru;go_enter Tryz.func231,Tryz.ntmps231
 have qV:=O W;clear W;rcases dY qV.o with ⟨M,k1,cO,F,hr1⟩ | ⟨kb1,F,rfl⟩
 rotate_left
 ·have D:=O F;clear F;go_wp2_with fail;refine (C m (ak0 _) .atom rfl _ k _ _ _ G.o.ps (by omega) (by rw [G.o.len];omega) (by rw [G.o.ns];exact T.o) (by rw [G.o.ns];exact D.o)).mono ?_;rintro e w1⟨rfl,hb1⟩;unfold aW;go_wp2_with fail;exact⟨rfl,aZ.bad rfl ((H.o.low G.o.mv).trans hb1)⟩
 have D:=O F;clear F;have HR1:=O hr1;clear hr1 qV;go_wp2_with fail;refine (C m (ak0 _) .atom rfl _ k _ _ _ G.o.ps (by omega) (by rw [G.o.len];omega) (by rw [G.o.ns];exact T.o) (by rw [G.o.ns];exact D.o)).mono ?_;rintro e w1⟨rfl,ext1,gT,ha1⟩;have t:=O (dG D.o (by omega) T.o (Ids.nil _) (by simp));have gl1:=t.o.lo;have gf1:=t.o.few;have ge1:=t.o.le;have gn1:=t.o.len;simp only [Job.reads] at gl1
 have af2:=O t.o.wf;have u:=O (G.o.trans ha1);skip;clear ha1;have R:=O (show run l en m (.jq (hd M)) k1 (aF (xs ++ ([] ++ ext1)))=some r by rw [u.o.ns];exact HR1.o);have HWL:=O (show Wf (aF (xs ++ ([] ++ ext1))) by rw [u.o.ns];exact af2.o);have KG:=O (show 0≤hd M∧hd M < ((xs ++ ([] ++ ext1)).length:Int) by rw [u.o.len];exact t.o.hd);have NY:=O (show At g tv l en iv w xs nv k1 (aF (xs ++ ([] ++ ext1))) w1 ([] ++ ext1) gT by rw [u.o.ns];exact u.o);have hcn:(xs ++ ([] ++ ext1)).length≤k1:=by rw [u.o.len];omega
 obtain⟨d,hav⟩:∃ d,d=hd M:=⟨_,rfl⟩;rw [← hav] at R KG ⊢
 clear hav;go_wp2_with fail;go_loopw [3] (fun a wr=>∃ (f c:Nat) (ext:List NV) (gB:Value) (d:Int),a=.int .i64 d∧f≤m∧c≤l.length∧(xs ++ ext).length≤c∧Hid (run l en f (.jq d) c (aF (xs ++ ext))=some r)∧Hid (Wf (aF (xs ++ ext)))∧Hid (0≤d∧d < ((xs ++ ext).length:Int))∧Hid (At g tv l en iv w xs nv c (aF (xs ++ ext)) wr ext gB)) (fun _ wr=>vU g l.length wr)
 case atStart=>exact⟨m,k1,[] ++ ext1,gT,d,rfl,ak0 _,ge1,hcn,R,HWL,KG,NY⟩
 case round =>
  clear R HWL KG NY hcn u HR1 D t gl1 gf1 ge1 gn1 af2;obtain⟨f,c,ext,gB,d,rfl,hfm,hk',hn',I4,Gu,KG,HA⟩:=hrel
  obtain⟨f,rfl⟩:∃ f0,f=f0+1:=⟨f - 1,by
   rcases Nat.eq_zero_or_pos f with h | h
   ·subst h;have:=I4.o;rw [run] at this;cases this
   ·omega⟩
  have HMS:=O (HA.o.ps.vU (n:=l.length));have hnl:(aF (xs ++ ext)).length≤c:=by rw [dL];exact hn'
  have W:=I4.o;rw [run] at W;have qV:=O W;clear W I4
  have afI:=O (show 0≤d∧d < ((aF (xs ++ ext)).length:Int) by rw [dL];exact KG.o);go_wp2_with fail;refine (iQ g tv l en iv _ c _ _ HA.o.ps (by omega) hlen).mono ?_;rintro e w2⟨rfl,hb2⟩;have HA2:=O (HA.o.below hb2);clear HA;clear hb2;have zG:=O (bf.new w2 80 #[.int .u8 (tg l c).kind,.string (aH (tx l c)),.int .i64 (pl l en c)]);have wC:=O (HA2.o.alloc (.cells #[.int .u8 (tg l c).kind,.string (aH (tx l c)),.int .i64 (pl l en c)] 80));clear HA2;rcases fT qV.o with ⟨Ah,E⟩ | ⟨Ah,E⟩
  ·skip;have hlt3:=cB Ah (by simp);have NZ:=O Ah;clear Ah;have I:=O E;clear E;go_wp2_with fail;refine (jI g tv l en iv hF [46] (.inr (by decide +kernel)) _ c _ _ wC.o.ps (by omega) NZ.o).mono ?_;rintro e w4⟨rfl,p4,m4⟩;have y:=O (wC.o.ps.aY m4 zG.o);clear zG;have q:=O (wC.o.step p4 m4);clear wC;clear p4 m4;have hzA:=q.o.mv.size;rcases fO I.o with ⟨vS,Jq⟩ | ⟨vS,rfl⟩
   rotate_left
   ·have KF:=O vS;clear vS;have fA:=y.o.cell 0;have fH:=y.o.cell 1;have fI:=y.o.cell 2;have sl0:=y.o.lt;go_wp2_with fail;refine wp_region_held_drew (S:=fun w'=>w'.cell? ⟨w2.heap.size,0,none⟩=some (.int .u8 (tg l c).kind)∧w'.cell? ⟨w2.heap.size,1,none⟩=some (.string (aH (tx l c)))∧w'.cell? ⟨w2.heap.size,2,none⟩=some (.int .i64 (pl l en c))) (by kernel_rfl) ⟨fA,fH,fI⟩ (fun i=>?_);refine dB 0 rfl i ?_;simp only [Act.put,akR,akS,akT];refine dB 1 rfl i ?_;simp only [Act.put,akR,akS,akT];refine dB 2 rfl i ?_;simp only [Act.put,akR,akS,akT];refine dB 5 rfl i ?_;simp only [Act.put,akR,akS,akT];refine wpAnyH_ready (rs:=[3,6]) (by kernel_rfl) (by simp) ?_;refine VP (.s (.s (.s .z))) (.s (.s (.s (.s (.s (.s .z)))))) (fun K hK=>?_) (fun K hK=>?_)
    ·go_simp;refine (mo g tv l en iv hF _ (c+1) _ _ q.o.ps.drew (by omega) KF.o).mono ?_;rintro e w5⟨rfl,V⟩;unfold aW;go_wp2_with fail;exact⟨rfl,aZ.bad rfl ((Below.drew (H.o.low q.o.mv)).trans (V.mono (ak1 q.o.ps.lt)))⟩
    go_simp;refine hK.out _ _ ?_ (fun Jj=>?_)
    ·go_keep
    (try simp only [Act.put,akR,akS,akT])
    refine wpAnyH_ready (rs:=[3]) (by kernel_rfl) (by simp) ?_;refine gN (.s (.s (.s .z))) (fun K hK=>?_);go_simp;refine (mo g tv l en iv hF _ (c+1) _ _ (q.o.ps.drew.alloc _) (by omega) KF.o).mono ?_;rintro e w5⟨rfl,V⟩;unfold aW;go_wp2_with fail;exact⟨rfl,aZ.bad rfl ((aG (Below.drew (H.o.low q.o.mv)) (ak1 q.o.ps.lt)).trans (V.mono (ak1 (q.o.ps.drew.alloc _).lt)))⟩
   have aeZ:=h_ vS (by simp);have KF:=O vS;clear vS;have wY:=O Jq;clear Jq I;have tf1:=l6;have fA:=y.o.cell 0;have fH:=y.o.cell 1;have fI:=y.o.cell 2;have sl0:=y.o.lt;go_wp2_with fail
   go_region_held3 (fun w'=>w'.cell? ⟨w2.heap.size,0,none⟩=some (.int .u8 (tg l c).kind)∧w'.cell? ⟨w2.heap.size,1,none⟩=some (.string (aH (tx l c)))∧w'.cell? ⟨w2.heap.size,2,none⟩=some (.int .i64 (pl l en c)))
    (first | go_keep|(go_split_ands;refine⟨?_,?_,?_⟩ <;> assumption))
    (first
     | (go_at_call 149;(with_reducible refine (kE g tv l en iv hF _ (c+1) _ _ q.o.ps.drew (by omega) KF.o).mono ?_);rintro e w5⟨rfl,p5,P⟩;unfold iW;have A:=O (q.o.drew.step p5 P);have x:=q.o.ps.drew.aY P y.o.drew;have uH:=x.cell 0;have uI:=x.cell 1;have uJ:=x.cell 2;have YO:=x.lt;have xM:=O x;clear x;have Zv:=A.o.mv.size;clear p5 P)
     | (go_at_call 149;(with_reducible refine (kE g tv l en iv hF _ (c+1) _ _ ((q.o.ps.alloc (.cells #[.int .i64 (d)] 3)).drew) (by omega) KF.o).mono ?_);rintro e w5⟨rfl,p5,P⟩;unfold iW;have A:=O ((At.alloc q.o (.cells #[.int .i64 (d)] 3)).drew.step p5 P);have tV:=O ((q.o.ps.alloc (.cells #[.int .i64 (d)] 3)).drew.kZ P (own_below (rA _ (d)) (Below.drew (Below.refl _ _))));have x:=P.blk ((y.o.alloc (.cells #[.int .i64 (d)] 3)).drew) ((q.o.ps.alloc (.cells #[.int .i64 (d)] 3)).drew.tag ((y.o.alloc (.cells #[.int .i64 (d)] 3)).drew) (by decide) (by decide)).1 ((q.o.ps.alloc (.cells #[.int .i64 (d)] 3)).drew.tag ((y.o.alloc (.cells #[.int .i64 (d)] 3)).drew) (by decide) (by decide)).2;have uH:=x.cell 0;have uI:=x.cell 1;have uJ:=x.cell 2;have YO:=x.lt;have xM:=O x;clear x;have Zv:=A.o.mv.size;clear p5 P)
     | (go_at_call 151;have TA:=gI g tv l en iv (aF (xs ++ ext)).length 22 (.int .u8 (tg l c).kind) (.string (aH (tx l c))) (pl l en c) (tx l (c+1)) 0 _ [d] _ ((c+1)+1) _ _ A.o.ps tV.o A.o.len (by omega);(refine TA.mono ?_);clear TA;rintro e w6⟨rfl,nv6,p6,Y⟩;have N:=A.o.ps.aY Y xM.o;have uL:=N.cell 0;have uM:=N.cell 1;have uN:=N.cell 2;clear N;have pR:=O (A.o.add p6 Y (by intro b hb;simp [Value.ownBlock] at hb;omega));clear p6 Y)
     | (go_at_call 151;have TA:=gI g tv l en iv (aF (xs ++ ext)).length 22 (.int .u8 (tg l c).kind) (.string (aH (tx l c))) (pl l en c) (tx l (c+1)) 0 _ [d] _ ((c+1)+1) _ _ (A.o.ps.alloc (.cells #[.int .i64 (d)] 3)) (rA w5 (d)) A.o.len (by omega);(refine TA.mono ?_);clear TA;rintro e w6⟨rfl,nv6,p6,Y⟩;have N:=Y.blk (xM.o.alloc _) (A.o.ps.tag xM.o (by decide) (by decide)).1 (A.o.ps.tag xM.o (by decide) (by decide)).2;have uL:=N.cell 0;have uM:=N.cell 1;have uN:=N.cell 2;clear N;have pR:=O ((At.alloc A.o _).add p6 Y (by intro b hb;simp [Value.ownBlock] at hb;omega));clear p6 Y))
   all_goals
    go_wp2_with fail;have Lu:=pR.o.len;have Tf:=O Lu;clear Lu
    refine⟨⟨f,((c+1)+1),_,_,(((aF (xs ++ ext)).length:Nat):Int),rfl,by omega,by omega,by rw [Tf.o];simp only [ak5,ak_];omega,O (by rw [pR.o.ns];exact wY.o),O (by rw [pR.o.ns];exact Gu.o.add (Ids.cons afI.o (Ids.nil _))),O (by rw [Tf.o];simp only [ak5,ak_];omega),O (by rw [pR.o.ns];exact pR.o)⟩,?_⟩
    rw [HMS.o,pR.o.ps.vU];omega
  ·skip;have NZ:=O Ah;clear Ah;have I:=O E;clear E;go_wp2_with fail;refine (kY g tv l en iv hF [46] (.inr (by decide +kernel)) _ c _ _ wC.o.ps (by omega) NZ.o).mono ?_;rintro e w7⟨rfl,pF⟩;have jQ:=O (zG.o.below pF zG.o.lt);clear zG;have Z:=O (wC.o.below pF);clear wC;clear pF;rcases fT I.o with ⟨v,LV⟩ | ⟨v,LV⟩
   ·skip;have akc:=cB v (by simp);have Q:=O v;clear v;have FR:=O LV;clear LV;go_wp2_with fail;refine (jI g tv l en iv hF [91] (.inr (by decide +kernel)) _ c _ _ Z.o.ps (by omega) Q.o).mono ?_;rintro e w9⟨rfl,p9,m9⟩;have lC:=O (Z.o.ps.aY m9 jQ.o);clear jQ;have B:=O (Z.o.step p9 m9);clear Z;clear p9 m9;rcases dY FR.o with ⟨aiG,L,agP,Zn,yC⟩ | ⟨akj,Zn,rfl⟩
    rotate_left
    ·have J:=O Zn;clear Zn;go_wp2_with fail;refine (C f (by omega) .expr rfl _ (c+1) _ _ _ B.o.ps (by omega) (by rw [B.o.len];omega) (by rw [B.o.ns];exact Gu.o) (by rw [B.o.ns];exact J.o)).mono ?_;rintro e Og⟨rfl,Un⟩;unfold aW;go_wp2_with fail;exact⟨rfl,aZ.bad rfl ((H.o.low B.o.mv).trans Un)⟩
    have J:=O Zn;clear Zn;have BZ:=O yC;clear yC FR;go_wp2_with fail;refine (C f (by omega) .expr rfl _ (c+1) _ _ _ B.o.ps (by omega) (by rw [B.o.len];omega) (by rw [B.o.ns];exact Gu.o) (by rw [B.o.ns];exact J.o)).mono ?_;rintro e Og⟨rfl,ajm,acB,U⟩;have Te:=O (dG J.o (by omega) Gu.o (Ids.nil _) (by simp));have ahT:=Te.o.lo;have ajQ:=Te.o.few;have ajH:=Te.o.le;have aj1:=Te.o.len;simp only [Job.reads] at ahT
    have nS:=O (U.blk B.o.ps lC.o (by decide) (by decide));clear lC;have af3:=O Te.o.wf;have sM:=O (B.o.trans U);clear B;clear U;rcases dP BZ.o with ⟨Ab,LH⟩ | ⟨Ab,rfl⟩
    rotate_left
    ·have Ow:=O Ab;clear Ab;go_wp2_with fail;refine (f_ g tv l en iv hF [93] (.inr (by decide +kernel)) _ L _ _ sM.o.ps (by omega) Ow.o).mono ?_;rintro e AX⟨rfl,Y2⟩;unfold aW;go_wp2_with fail;exact⟨rfl,aZ.bad rfl ((H.o.low sM.o.mv).trans (Y2.mono (ak1 sM.o.ps.lt)))⟩
    have Tt:=O LH;clear LH BZ;have agr:=cB Ab (by simp);have Ow:=O Ab;clear Ab;go_wp2_with fail;refine (eP g tv l en iv hF [93] (.inr (by decide +kernel)) _ L _ _ sM.o.ps (by omega) Ow.o).mono ?_;rintro e AX⟨rfl,p11,X⟩;have lK:=O (sM.o.ps.aY X nS.o);clear nS;have nA:=O (sM.o.step p11 X);clear sM;clear p11 X;have fA:=lK.o.cell 0;have fH:=lK.o.cell 1;have fI:=lK.o.cell 2;have sl0:=lK.o.lt;go_wp2_with fail;refine (gI g tv l en iv agP.length 23 _ _ _ [] 0 _ [d,hd aiG] _ (L+1) _ _ (nA.o.alloc _).ps (Cu _ _ _) nA.o.len (by omega)).mono ?_;rintro e tC⟨rfl,rM,p12,m12⟩;have hzz:=nA.o.mv.size;have qg:=O ((nA.o.alloc _).add p12 m12 (by intro b hb;simp [Value.ownBlock] at hb;omega));clear p12 m12;go_wp2_with fail;have Lu:=qg.o.len;have Tf:=O Lu;clear Lu
    refine⟨⟨f,(L+1),_,_,((agP.length:Nat):Int),rfl,by omega,by omega,by rw [Tf.o];simp only [ak5,ak_];omega,O (by rw [qg.o.ns];exact Tt.o),O (by rw [qg.o.ns];exact af3.o.add (Ids.cons (by have:=afI.o;omega) (Ids.cons Te.o.hd (Ids.nil _)))),O (by rw [Tf.o];simp only [ak5,ak_];omega),O (by rw [qg.o.ns];exact qg.o)⟩,?_⟩
    rw [HMS.o,qg.o.ps.vU];omega
   ·skip;have Q:=O v;clear v;have FR:=O LV;clear LV;go_wp2_with fail;refine (kY g tv l en iv hF [91] (.inr (by decide +kernel)) _ c _ _ Z.o.ps (by omega) Q.o).mono ?_;rintro e w13⟨rfl,PG⟩;have sN:=O (jQ.o.below PG jQ.o.lt);clear jQ;have oO:=O (Z.o.below PG);clear Z;clear PG;have HST:=O (ak6 FR.o).symm;go_wp2_with fail;go_ret;rw [HST.o];exact aZ.ok rfl oO.o
end
end
section
open Go.RowKit Mist
section
variable {g:Nat} {tv:Value} {l:List Tok} {en:Int} {iv:Value} (hF:PF l)
include hF
theorem Gx (m:Nat):(∀ f,f≤m→∀ j,isFn j=true→IC g tv l en iv f j)∧(∀ f,f≤m→∀ e,LC g tv l en iv f e):=by
 induction m with
 | zero =>
  constructor
  ·intro f a j _ w k xs nv r _ _ _ _ d;obtain rfl:f=0:=by omega
   rw [run] at d;cases d
  ·intro f a e w k xs nv r _ _ _ _ d;obtain rfl:f=0:=by omega
   rw [run] at d;cases d
 | succ m o =>
  obtain⟨C,b⟩:=o
  have n:∀ e,LC g tv l en iv (m+1) e:=by
   intro e
   cases e with
   | expr=>exact Jy hF .expr m fun f a=>C f a _ rfl
   | put=>exact Jy hF .put m fun f a=>C f a _ rfl
   | param=>exact Jy hF .param m fun f a=>C f a _ rfl
  have i:∀ j,isFn j=true→IC g tv l en iv (m+1) j:=by
   intro j c
   cases j with
   | expr=>exact Ve hF m C b
   | post=>exact Vf hF m C b
   | atom=>exact Vd hF m C b
   | put=>exact aaD hF m C b
   | param=>exact Qw hF m C b
   | typ=>exact aaF hF m C b
   | lv v =>
    cases v with
    | or=>exact acV hF m fun f a=>C f a _ rfl
    | and=>exact aaA hF m fun f a=>C f a _ rfl
    | not=>exact Sy hF (.lv .not) (.lv .cmp) [110,111,116] (.inl ⟨rfl,rfl,rfl⟩) (.inl (by decide +kernel)) m (C m (ak0 _) _ rfl) (C m (ak0 _) _ rfl)
    | cmp=>exact aaC hF m fun f a=>C f a _ rfl
    | sum=>exact aaE hF m fun f a=>C f a _ rfl
    | term=>exact Vg hF m fun f a=>C f a _ rfl
    | unary=>exact Sy hF (.lv .unary) .post [45] (.inr ⟨rfl,rfl,rfl⟩) (.inr (by decide +kernel)) m (C m (ak0 _) _ rfl) (C m (ak0 _) _ rfl)
   | tail _ _=>cases c
   | jq _=>cases c
   | list _=>cases c
   | gQ _ _=>cases c
  constructor
  ·intro f a j c;rcases Nat.lt_or_ge f (m+1) with h | h
   ·exact C f (by omega) j c
   ·obtain rfl:f=m+1:=by omega
    exact i j c
  ·intro f a e;rcases Nat.lt_or_ge f (m+1) with h | h
   ·exact b f (by omega) e
   ·obtain rfl:f=m+1:=by omega
    exact n e
theorem oG (m:Nat)(j:Job)(a:isFn j=true):IC g tv l en iv m j:=(Gx hF m).1 m (ak0 _) j a
theorem oz (m:Nat)(e:El):LC g tv l en iv m e:=(Gx hF m).2 m (ak0 _) e
end
theorem Hr {l:List Tok}{en:Int}:∀ (n:Nat) (e:El) (a:List Int) (k:Nat) (ns:List Nd) (b:List Int) (c:Nat) (d:List Nd),k≤l.length→Wf ns→run l en n (.gQ e a) k ns=some (.ok b c d)→b.length+k≤a.length+c
 | 0,_,_,_,_,_,_,_,_,_,h=>by rw [run] at h;cases h
 | n+1,e,a,k,ns,b,c,d,hk,hw,h=>by
  rw [run] at h
  by_cases f:tx l k=[44]
  ·have m:=cB f (by simp);rw [if_pos f] at h
   rcases dY h with ⟨i,r,q,j,o⟩ | ⟨kb,j,h2⟩
   ·have g:=dG j (by omega) hw (by cases e <;> exact Ids.nil _) (by cases e <;> simp [El.job]);have h3:=Hr n e (a ++ [hd i]) r q b c d g.le g.wf o;have h4:=g.lo;rw [ak5] at h3
    simp only [ak_] at h3
    omega
   ·cases h2
  ·rw [if_neg f] at h
   injection h with h;injection h with h1 h2 h3
   subst h1 h2;omega
theorem ZY {l:List Tok}{en:Int}{n:Nat}{e:El}{k:Nat}{ns:List Nd}{a:List Int}{b:Nat}{d:List Nd}(i:k≤l.length)(m:Wf ns)(h:run l en n (.list e) k ns=some (.ok a b d)):a.length≤b:=by
 cases n with
 | zero=>rw [run] at h;cases h
 | succ n =>
  rw [run] at h
  rcases dY h with ⟨c,q,o,f,j⟩ | ⟨kb,f,h2⟩
  ·have g:=dG f i m (by cases e <;> exact Ids.nil _) (by cases e <;> simp [El.job]);have h3:=Hr n e [hd c] q o a b d g.le g.wf j;have h4:=g.lo;have h5:e.job.reads=1:=by cases e <;> rfl
   simp only [ak_] at h3
   omega
  ·cases h2
theorem D9 {w:World}{base q:Nat}{v:Value}{a:List Int}(b:a.length=q)(h:w.ownsRow base 3 1 v q (intCells a)):dD w v a:=by
 subst b;exact jm h (fun _ _=>ak2 _)
theorem ne_nil {ext:List NV}:∀ x ∈ ext,x.2.ownBlock=none∨x.2.ownBlock ≠ (Value.slice none 0 0).ownBlock:=fun x _=>by
 rcases h:x.2.ownBlock with _ | b
 ·exact .inl rfl
 ·exact .inr (by simp [Value.ownBlock])
theorem rD {ext c:List NV}{w:World}{v:Value}(h:∀ x ∈ ext,x.2.ownBlock=none∨x.2.ownBlock ≠ v.ownBlock)(d:pQ w c)(hv:∀ b,v.ownBlock=some b→b < w.heap.size):∀ x ∈ ext ++ c,x.2.ownBlock=none∨x.2.ownBlock ≠ v.ownBlock:=fun x a=>by
 rcases List.mem_append.1 a with a | a
 ·exact h x a
 ·exact Ll d a hv
theorem oV {g:Nat}{tv:Value}{l:List Tok}{en:Int}{iv:Value}{w1:World}{k:Nat}{xs ext:List NV}{nv:Value}{v:Value}{a:Nat}(p:PS g tv l en iv w1 k (xs ++ ext) nv)(h:∀ x ∈ ext,x.2.ownBlock=none∨x.2.ownBlock ≠ v.ownBlock)(d:v.ownBlock=some a∨a=w1.heap.size+1)(q c:Nat):∀ x ∈ ext,x.2.ownBlock=none∨x.2.ownBlock ≠ (Value.slice (some ⟨a,0,none⟩) q c).ownBlock:=fun x i=>by
 show x.2.ownBlock=none∨x.2.ownBlock ≠ some a
 rcases d with e | e
 ·rw [← e];exact h x i
 ·rcases h9:x.2.ownBlock with _ | b
  ·exact .inl rfl
  ·right
   intro f;injection f with f
   have:=(World.ownsRow.lt (p.kids x (List.mem_append_right _ i)) b h9).2
   omega
theorem fC {w c:World}{o:Obj}{T e s n b:Nat}{v:Value}{i:List Value}{base:Nat}{cs:Array Value}(a:bf w b T cs)(h:w.ownsRow base e s v n i)(f:(w.alloc o).grownBy c v.ownBlock)(hd:e ≠ T):bf c b T cs :=
 (a.alloc o).grown f (fun d=>bD h a hd d.symm)
theorem SX (x y:Bs)(h:x=y):(x == y)=true:=by simp [h]
theorem Iu (x y:Bs)(h:¬ x=y):(x == y)=false:=by simp [h]
def BH:List (Bs × Value):=[([109,117,115,116],.int .i64 1),([109,97,121],.int .i64 2),([99,111,117,110,116],.int .i64 3),([98,111,117,110,100,115],.int .i64 4),([118,97,108,117,101,115],.int .i64 5),([119,104,121],.int .i64 6),([98,108,97,109,101],.int .i64 7),([108,111,111,107],.int .i64 8)]
theorem aaO (x:Bs):(qJ x BH).getD (.int .i64 0)=.int .i64 (gZ x:Nat):=by
 simp only [BH,qJ,gZ];(repeat' split) <;> rfl
theorem Z0 (w:World)(m c:Nat)(a:w.heap[m]? = some (.map (jD BH 0).toArray c))(x:Bs):(Instr.lookup 166 (.map (some m)) (.string (aH x)) false).run Tryz.prog w=.ok (.int .i64 (gZ x:Nat)) w:=by
 have h:=Ef 166 3 (.int .i64 0) Tryz.underlying166 w (abu w) BH m c a x false;rw [h,aaO];rfl
theorem MS (w:World):Calls Tryz.prog 158 #[] w fun e b=>e=.returned (.map (some w.heap.size))∧b=w.alloc (.map (jD BH 0).toArray 8):=by
 have a:=@run_makeMap Tryz.prog;have c:(Instr.mapUpdate 166 (.map (some w.heap.size)) (.string ⟨#[109,117,115,116]⟩) (.int .i64 1)).run Tryz.prog (w.alloc (.map #[] 0))=.ok () (w.alloc (.map (jD [([109,117,115,116],.int .i64 1)] 0).toArray 1)):=fq 166 3 Tryz.underlying166 w [] [109,117,115,116] (.int .i64 1) (by decide +kernel);have d:(Instr.mapUpdate 166 (.map (some w.heap.size)) (.string ⟨#[109,97,121]⟩) (.int .i64 2)).run Tryz.prog (w.alloc (.map (jD [([109,117,115,116],.int .i64 1)] 0).toArray 1))=.ok () (w.alloc (.map (jD [([109,117,115,116],.int .i64 1),([109,97,121],.int .i64 2)] 0).toArray 2)):=fq 166 3 Tryz.underlying166 w [([109,117,115,116],.int .i64 1)] [109,97,121] (.int .i64 2) (by decide +kernel);have f:(Instr.mapUpdate 166 (.map (some w.heap.size)) (.string ⟨#[99,111,117,110,116]⟩) (.int .i64 3)).run Tryz.prog (w.alloc (.map (jD [([109,117,115,116],.int .i64 1),([109,97,121],.int .i64 2)] 0).toArray 2))=.ok () (w.alloc (.map (jD [([109,117,115,116],.int .i64 1),([109,97,121],.int .i64 2),([99,111,117,110,116],.int .i64 3)] 0).toArray 3)):=fq 166 3 Tryz.underlying166 w [([109,117,115,116],.int .i64 1),([109,97,121],.int .i64 2)] [99,111,117,110,116] (.int .i64 3) (by decide +kernel);have h:(Instr.mapUpdate 166 (.map (some w.heap.size)) (.string ⟨#[98,111,117,110,100,115]⟩) (.int .i64 4)).run Tryz.prog (w.alloc (.map (jD [([109,117,115,116],.int .i64 1),([109,97,121],.int .i64 2),([99,111,117,110,116],.int .i64 3)] 0).toArray 3))=.ok () (w.alloc (.map (jD [([109,117,115,116],.int .i64 1),([109,97,121],.int .i64 2),([99,111,117,110,116],.int .i64 3),([98,111,117,110,100,115],.int .i64 4)] 0).toArray 4)):=fq 166 3 Tryz.underlying166 w [([109,117,115,116],.int .i64 1),([109,97,121],.int .i64 2),([99,111,117,110,116],.int .i64 3)] [98,111,117,110,100,115] (.int .i64 4) (by decide +kernel);have i:(Instr.mapUpdate 166 (.map (some w.heap.size)) (.string ⟨#[118,97,108,117,101,115]⟩) (.int .i64 5)).run Tryz.prog (w.alloc (.map (jD [([109,117,115,116],.int .i64 1),([109,97,121],.int .i64 2),([99,111,117,110,116],.int .i64 3),([98,111,117,110,100,115],.int .i64 4)] 0).toArray 4))=.ok () (w.alloc (.map (jD [([109,117,115,116],.int .i64 1),([109,97,121],.int .i64 2),([99,111,117,110,116],.int .i64 3),([98,111,117,110,100,115],.int .i64 4),([118,97,108,117,101,115],.int .i64 5)] 0).toArray 5)):=fq 166 3 Tryz.underlying166 w [([109,117,115,116],.int .i64 1),([109,97,121],.int .i64 2),([99,111,117,110,116],.int .i64 3),([98,111,117,110,100,115],.int .i64 4)] [118,97,108,117,101,115] (.int .i64 5) (by decide +kernel);have j:(Instr.mapUpdate 166 (.map (some w.heap.size)) (.string ⟨#[119,104,121]⟩) (.int .i64 6)).run Tryz.prog (w.alloc (.map (jD [([109,117,115,116],.int .i64 1),([109,97,121],.int .i64 2),([99,111,117,110,116],.int .i64 3),([98,111,117,110,100,115],.int .i64 4),([118,97,108,117,101,115],.int .i64 5)] 0).toArray 5))=.ok () (w.alloc (.map (jD [([109,117,115,116],.int .i64 1),([109,97,121],.int .i64 2),([99,111,117,110,116],.int .i64 3),([98,111,117,110,100,115],.int .i64 4),([118,97,108,117,101,115],.int .i64 5),([119,104,121],.int .i64 6)] 0).toArray 6)):=fq 166 3 Tryz.underlying166 w [([109,117,115,116],.int .i64 1),([109,97,121],.int .i64 2),([99,111,117,110,116],.int .i64 3),([98,111,117,110,100,115],.int .i64 4),([118,97,108,117,101,115],.int .i64 5)] [119,104,121] (.int .i64 6) (by decide +kernel);have k:(Instr.mapUpdate 166 (.map (some w.heap.size)) (.string ⟨#[98,108,97,109,101]⟩) (.int .i64 7)).run Tryz.prog (w.alloc (.map (jD [([109,117,115,116],.int .i64 1),([109,97,121],.int .i64 2),([99,111,117,110,116],.int .i64 3),([98,111,117,110,100,115],.int .i64 4),([118,97,108,117,101,115],.int .i64 5),([119,104,121],.int .i64 6)] 0).toArray 6))=.ok () (w.alloc (.map (jD [([109,117,115,116],.int .i64 1),([109,97,121],.int .i64 2),([99,111,117,110,116],.int .i64 3),([98,111,117,110,100,115],.int .i64 4),([118,97,108,117,101,115],.int .i64 5),([119,104,121],.int .i64 6),([98,108,97,109,101],.int .i64 7)] 0).toArray 7)):=fq 166 3 Tryz.underlying166 w [([109,117,115,116],.int .i64 1),([109,97,121],.int .i64 2),([99,111,117,110,116],.int .i64 3),([98,111,117,110,100,115],.int .i64 4),([118,97,108,117,101,115],.int .i64 5),([119,104,121],.int .i64 6)] [98,108,97,109,101] (.int .i64 7) (by decide +kernel);have m:(Instr.mapUpdate 166 (.map (some w.heap.size)) (.string ⟨#[108,111,111,107]⟩) (.int .i64 8)).run Tryz.prog (w.alloc (.map (jD [([109,117,115,116],.int .i64 1),([109,97,121],.int .i64 2),([99,111,117,110,116],.int .i64 3),([98,111,117,110,100,115],.int .i64 4),([118,97,108,117,101,115],.int .i64 5),([119,104,121],.int .i64 6),([98,108,97,109,101],.int .i64 7)] 0).toArray 7))=.ok () (w.alloc (.map (jD [([109,117,115,116],.int .i64 1),([109,97,121],.int .i64 2),([99,111,117,110,116],.int .i64 3),([98,111,117,110,100,115],.int .i64 4),([118,97,108,117,101,115],.int .i64 5),([119,104,121],.int .i64 6),([98,108,97,109,101],.int .i64 7),([108,111,111,107],.int .i64 8)] 0).toArray 8)):=fq 166 3 Tryz.underlying166 w [([109,117,115,116],.int .i64 1),([109,97,121],.int .i64 2),([99,111,117,110,116],.int .i64 3),([98,111,117,110,100,115],.int .i64 4),([118,97,108,117,101,115],.int .i64 5),([119,104,121],.int .i64 6),([98,108,97,109,101],.int .i64 7)] [108,111,111,107] (.int .i64 8) (by decide +kernel);go_in
 go_wp2_with fail;go_ret;exact⟨rfl,rfl⟩
def Cc:It→Nat
 | .choose=>124
 | .record=>125
 | .zY=>126
 | .Az=>127
 | .observe=>128
 | .mD=>129
 | .ask=>130
def fv (n:Nat):Value:=.func (.func n) #[] #[]
def yD:List (Bs × Value):=[([99,104,111,111,115,101],fv (Cc .choose)),([116,121,112,101],fv (Cc .record)),([102,117,110],fv (Cc .zY)),([108,101,116],fv (Cc .Az)),([111,98,115,101,114,118,101],fv (Cc .observe)),([114,101,116,114,97,99,116],fv (Cc .mD)),([97,115,107],fv (Cc .ask))]
theorem Zx (x:Bs):qJ x yD=(F6 x).map fun i=>fv (Cc i):=by
 simp only [yD,qJ,F6];(repeat' split) <;> rfl
theorem UN (w:World):Calls Tryz.prog 83 #[] w fun e b=>e=.returned (.map (some w.heap.size))∧b=w.alloc (.map (jD yD 0).toArray 7):=by
 have a:=@run_makeMap Tryz.prog;have c:(Instr.mapUpdate 126 (.map (some w.heap.size)) (.string ⟨#[99,104,111,111,115,101]⟩) (.func (.func 124) #[] #[])).run Tryz.prog (w.alloc (.map #[] 0))=.ok () (w.alloc (.map (jD [([99,104,111,111,115,101],.func (.func 124) #[] #[])] 0).toArray 1)):=fq 126 130 Tryz.underlying126 w [] [99,104,111,111,115,101] (.func (.func 124) #[] #[]) (by decide +kernel);have d:(Instr.mapUpdate 126 (.map (some w.heap.size)) (.string ⟨#[116,121,112,101]⟩) (.func (.func 125) #[] #[])).run Tryz.prog (w.alloc (.map (jD [([99,104,111,111,115,101],.func (.func 124) #[] #[])] 0).toArray 1))=.ok () (w.alloc (.map (jD [([99,104,111,111,115,101],.func (.func 124) #[] #[]),([116,121,112,101],.func (.func 125) #[] #[])] 0).toArray 2)):=fq 126 130 Tryz.underlying126 w [([99,104,111,111,115,101],.func (.func 124) #[] #[])] [116,121,112,101] (.func (.func 125) #[] #[]) (by decide +kernel);have f:(Instr.mapUpdate 126 (.map (some w.heap.size)) (.string ⟨#[102,117,110]⟩) (.func (.func 126) #[] #[])).run Tryz.prog (w.alloc (.map (jD [([99,104,111,111,115,101],.func (.func 124) #[] #[]),([116,121,112,101],.func (.func 125) #[] #[])] 0).toArray 2))=.ok () (w.alloc (.map (jD [([99,104,111,111,115,101],.func (.func 124) #[] #[]),([116,121,112,101],.func (.func 125) #[] #[]),([102,117,110],.func (.func 126) #[] #[])] 0).toArray 3)):=fq 126 130 Tryz.underlying126 w [([99,104,111,111,115,101],.func (.func 124) #[] #[]),([116,121,112,101],.func (.func 125) #[] #[])] [102,117,110] (.func (.func 126) #[] #[]) (by decide +kernel);have h:(Instr.mapUpdate 126 (.map (some w.heap.size)) (.string ⟨#[108,101,116]⟩) (.func (.func 127) #[] #[])).run Tryz.prog (w.alloc (.map (jD [([99,104,111,111,115,101],.func (.func 124) #[] #[]),([116,121,112,101],.func (.func 125) #[] #[]),([102,117,110],.func (.func 126) #[] #[])] 0).toArray 3))=.ok () (w.alloc (.map (jD [([99,104,111,111,115,101],.func (.func 124) #[] #[]),([116,121,112,101],.func (.func 125) #[] #[]),([102,117,110],.func (.func 126) #[] #[]),([108,101,116],.func (.func 127) #[] #[])] 0).toArray 4)):=fq 126 130 Tryz.underlying126 w [([99,104,111,111,115,101],.func (.func 124) #[] #[]),([116,121,112,101],.func (.func 125) #[] #[]),([102,117,110],.func (.func 126) #[] #[])] [108,101,116] (.func (.func 127) #[] #[]) (by decide +kernel);have i:(Instr.mapUpdate 126 (.map (some w.heap.size)) (.string ⟨#[111,98,115,101,114,118,101]⟩) (.func (.func 128) #[] #[])).run Tryz.prog (w.alloc (.map (jD [([99,104,111,111,115,101],.func (.func 124) #[] #[]),([116,121,112,101],.func (.func 125) #[] #[]),([102,117,110],.func (.func 126) #[] #[]),([108,101,116],.func (.func 127) #[] #[])] 0).toArray 4))=.ok () (w.alloc (.map (jD [([99,104,111,111,115,101],.func (.func 124) #[] #[]),([116,121,112,101],.func (.func 125) #[] #[]),([102,117,110],.func (.func 126) #[] #[]),([108,101,116],.func (.func 127) #[] #[]),([111,98,115,101,114,118,101],.func (.func 128) #[] #[])] 0).toArray 5)):=fq 126 130 Tryz.underlying126 w [([99,104,111,111,115,101],.func (.func 124) #[] #[]),([116,121,112,101],.func (.func 125) #[] #[]),([102,117,110],.func (.func 126) #[] #[]),([108,101,116],.func (.func 127) #[] #[])] [111,98,115,101,114,118,101] (.func (.func 128) #[] #[]) (by decide +kernel);have j:(Instr.mapUpdate 126 (.map (some w.heap.size)) (.string ⟨#[114,101,116,114,97,99,116]⟩) (.func (.func 129) #[] #[])).run Tryz.prog (w.alloc (.map (jD [([99,104,111,111,115,101],.func (.func 124) #[] #[]),([116,121,112,101],.func (.func 125) #[] #[]),([102,117,110],.func (.func 126) #[] #[]),([108,101,116],.func (.func 127) #[] #[]),([111,98,115,101,114,118,101],.func (.func 128) #[] #[])] 0).toArray 5))=.ok () (w.alloc (.map (jD [([99,104,111,111,115,101],.func (.func 124) #[] #[]),([116,121,112,101],.func (.func 125) #[] #[]),([102,117,110],.func (.func 126) #[] #[]),([108,101,116],.func (.func 127) #[] #[]),([111,98,115,101,114,118,101],.func (.func 128) #[] #[]),([114,101,116,114,97,99,116],.func (.func 129) #[] #[])] 0).toArray 6)):=fq 126 130 Tryz.underlying126 w [([99,104,111,111,115,101],.func (.func 124) #[] #[]),([116,121,112,101],.func (.func 125) #[] #[]),([102,117,110],.func (.func 126) #[] #[]),([108,101,116],.func (.func 127) #[] #[]),([111,98,115,101,114,118,101],.func (.func 128) #[] #[])] [114,101,116,114,97,99,116] (.func (.func 129) #[] #[]) (by decide +kernel);have k:(Instr.mapUpdate 126 (.map (some w.heap.size)) (.string ⟨#[97,115,107]⟩) (.func (.func 130) #[] #[])).run Tryz.prog (w.alloc (.map (jD [([99,104,111,111,115,101],.func (.func 124) #[] #[]),([116,121,112,101],.func (.func 125) #[] #[]),([102,117,110],.func (.func 126) #[] #[]),([108,101,116],.func (.func 127) #[] #[]),([111,98,115,101,114,118,101],.func (.func 128) #[] #[]),([114,101,116,114,97,99,116],.func (.func 129) #[] #[])] 0).toArray 6))=.ok () (w.alloc (.map (jD [([99,104,111,111,115,101],.func (.func 124) #[] #[]),([116,121,112,101],.func (.func 125) #[] #[]),([102,117,110],.func (.func 126) #[] #[]),([108,101,116],.func (.func 127) #[] #[]),([111,98,115,101,114,118,101],.func (.func 128) #[] #[]),([114,101,116,114,97,99,116],.func (.func 129) #[] #[]),([97,115,107],.func (.func 130) #[] #[])] 0).toArray 7)):=fq 126 130 Tryz.underlying126 w [([99,104,111,111,115,101],.func (.func 124) #[] #[]),([116,121,112,101],.func (.func 125) #[] #[]),([102,117,110],.func (.func 126) #[] #[]),([108,101,116],.func (.func 127) #[] #[]),([111,98,115,101,114,118,101],.func (.func 128) #[] #[]),([114,101,116,114,97,99,116],.func (.func 129) #[] #[])] [97,115,107] (.func (.func 130) #[] #[]) (by decide +kernel);go_in
 go_wp2_with fail;go_ret;exact⟨rfl,rfl⟩
end
section
open Go.RowKit Mist
attribute [local go_sem] ah aM aV au ak
section
variable {g:Nat} {tv:Value} {l:List Tok} {en:Int} {iv:Value} (hF:PF l)
include hF
theorem UM (m:Nat)(w:World)(k:Nat)(xs:List NV)(nv:Value)(r:kX)(h:PS g tv l en iv w (k+1) xs nv)(hk:k+1≤l.length)(hn:xs.length≤k)(hw:Wf (aF xs))(hr:iq l en m .Az k (aF xs)=some r) :
  Calls Tryz.prog 127 #[.pointer (some ⟨g,0,none⟩),.agg #[.int .u8 (tg l k).kind,.string (aH (tx l k)),.int .i64 (pl l en k)]] w (aZ g tv l en iv w xs nv r):=by
 have C:=fun (f:Nat) (_:f≤m) (j:Job) (hj:isFn j=true)=>oG (g:=g) (tv:=tv) (en:=en) (iv:=iv) hF f j hj
 have CL:=fun (f:Nat) (_:f≤m) (e:El)=>oz (g:=g) (tv:=tv) (en:=en) (iv:=iv) hF f e
 have H:=O h;clear h;have A:=O ((At.refl H.o).alloc (.cells #[.int .u8 (tg l k).kind,.string (aH (tx l k)),.int .i64 (pl l en k)] 80));have vL:=O (bf.new w 80 #[.int .u8 (tg l k).kind,.string (aH (tx l k)),.int .i64 (pl l en k)]);have y:=O hw;clear hw;have hn0:(aF xs).length≤k:=by rw [dL];exact hn
 have hlen:=hF.len;unfold iq at hr
 have qV:=O hr;clear hr;go_in
 rcases fO qV.o with ⟨d,G⟩ | ⟨d,rfl⟩
 rotate_left
 ·have um:=O d;clear d;go_wp2_with fail;refine (mo g tv l en iv hF _ (k+1) _ _ A.o.ps (by omega) um.o).mono ?_;rintro e w1⟨rfl,Y⟩;unfold aW;go_wp2_with fail;exact⟨rfl,aZ.bad rfl ((H.o.low A.o.mv).trans (Y.mono (ak1 A.o.ps.lt)))⟩
 have E:=O G;clear G qV;have hlt1:=h_ d (by simp);have um:=O d;clear d;go_wp2_with fail;refine (kE g tv l en iv hF _ (k+1) _ _ A.o.ps (by omega) um.o).mono ?_;rintro e w1⟨rfl,p1,m1⟩;have qU:=O (A.o.ps.aY m1 vL.o);clear vL;have D:=O (A.o.step p1 m1);clear A;clear p1 m1;unfold iW;have jP:=O (qU.o.alloc (.cells #[.int .u8 (tg l (k+1)).kind,.string (aH (tx l (k+1))),.int .i64 (pl l en (k+1))] 80));clear qU;have nP:=O (bf.new w1 80 #[.int .u8 (tg l (k+1)).kind,.string (aH (tx l (k+1))),.int .i64 (pl l en (k+1))]);have u:=O (D.o.alloc (.cells #[.int .u8 (tg l (k+1)).kind,.string (aH (tx l (k+1))),.int .i64 (pl l en (k+1))] 80));clear D;rcases dP E.o with ⟨i,I⟩ | ⟨i,rfl⟩
 rotate_left
 ·have x:=O i;clear i;go_wp2_with fail;refine (f_ g tv l en iv hF [61] (.inr (by decide +kernel)) _ ((k+1)+1) _ _ u.o.ps (by omega) x.o).mono ?_;rintro e w2⟨rfl,Z⟩;unfold aW;go_wp2_with fail;exact⟨rfl,aZ.bad rfl ((H.o.low u.o.mv).trans (Z.mono (ak1 u.o.ps.lt)))⟩
 have F:=O I;clear I E;have hlt2:=cB i (by simp);have x:=O i;clear i;go_wp2_with fail;refine (eP g tv l en iv hF [61] (.inr (by decide +kernel)) _ ((k+1)+1) _ _ u.o.ps (by omega) x.o).mono ?_;rintro e w2⟨rfl,p2,Q⟩;have q:=O (u.o.ps.aY Q jP.o);have L:=O (u.o.ps.aY Q nP.o);clear jP nP;have a:=O (u.o.step p2 Q);clear u;clear p2 Q;rcases dY F.o with ⟨Sd,k3,AB,n,J⟩ | ⟨kb3,n,rfl⟩
 rotate_left
 ·have N:=O n;clear n;have fA:=q.o.cell 0;have fH:=q.o.cell 1;have fI:=q.o.cell 2;have sl0:=q.o.lt;have pV:=L.o.cell 1;have sl1:=L.o.lt;go_wp2_with fail;refine wp_region_held_drew (S:=fun t=>t.cell? ⟨w.heap.size,0,none⟩=some (.int .u8 (tg l k).kind)∧t.cell? ⟨w.heap.size,1,none⟩=some (.string (aH (tx l k)))∧t.cell? ⟨w.heap.size,2,none⟩=some (.int .i64 (pl l en k))∧t.cell? ⟨w1.heap.size,1,none⟩=some (.string (aH (tx l (k+1))))) (by kernel_rfl) ⟨fA,fH,fI,pV⟩ (fun c=>?_);refine dB 0 rfl c ?_;simp only [Act.put,akR,akS,akT];refine dB 1 rfl c ?_;simp only [Act.put,akR,akS,akT];refine dB 2 rfl c ?_;simp only [Act.put,akR,akS,akT];refine dB 3 rfl c ?_;simp only [Act.put,akR,akS,akT];refine dB 4 rfl c ?_;simp only [Act.put,akR,akS,akT];refine wpAnyH_ready (rs:=[5]) (by kernel_rfl) (by simp) ?_;refine gN (.s (.s (.s (.s (.s .z))))) (fun K hK=>?_);go_simp;refine (C m (ak0 _) .expr rfl _ (((k+1)+1)+1) _ _ _ a.o.ps.drew (by omega) (by rw [a.o.len];omega) (by rw [a.o.ns];exact y.o) (by rw [a.o.ns];exact N.o)).mono ?_;rintro e w3⟨rfl,hb3⟩;unfold aW;go_wp2_with fail;exact⟨rfl,aZ.bad rfl ((Below.drew (H.o.low a.o.mv)).trans hb3)⟩
 have N:=O n;clear n;have W:=O J;clear J F;have M:=O (dG N.o (by omega) y.o (Ids.nil _) (by simp));have X:=M.o.lo;have gf3:=M.o.few;have ge3:=M.o.le;have gn3:=M.o.len;simp only [Job.reads] at X
 have fA:=q.o.cell 0;have fH:=q.o.cell 1;have fI:=q.o.cell 2;have sl0:=q.o.lt;have pV:=L.o.cell 1;have sl1:=L.o.lt;go_wp2_with fail
 go_region_held3 (fun t=>t.cell? ⟨w.heap.size,0,none⟩=some (.int .u8 (tg l k).kind)∧t.cell? ⟨w.heap.size,1,none⟩=some (.string (aH (tx l k)))∧t.cell? ⟨w.heap.size,2,none⟩=some (.int .i64 (pl l en k))∧t.cell? ⟨w1.heap.size,1,none⟩=some (.string (aH (tx l (k+1)))))
  (first | go_keep|(go_split_ands;refine⟨?_,?_,?_,?_⟩ <;> assumption))
  (first
   | (go_at_call 157;refine (C m (ak0 _) .expr rfl _ (((k+1)+1)+1) _ _ _ a.o.ps.drew (by omega) (by rw [a.o.len];omega) (by rw [a.o.ns];exact y.o) (by rw [a.o.ns];exact N.o)).mono ?_;rintro e w3⟨rfl,ab0,Km,P⟩;have v:=O (a.o.drew.trans P);have B:=P.blk a.o.ps.drew q.o.drew (by decide) (by decide);have uH:=B.cell 0;have uI:=B.cell 1;have uJ:=B.cell 2;have YO:=B.lt;have qj:=O B;clear B;have U:=P.blk a.o.ps.drew L.o.drew (by decide) (by decide);have YM:=U.cell 1;have dl1:=U.lt;have V:=O U;clear U;have hz3:=v.o.mv.size;clear P)
   | (go_at_call 151;refine (gI g tv l en iv AB.length 43 _ _ _ (tx l (k+1)) 0 _ [hd Sd] _ k3 _ _ (v.o.ps.alloc _) (rA w3 (hd Sd)) v.o.len (by omega)).mono ?_;rintro e w4⟨rfl,F9,p4,R⟩;have T:=R.blk (qj.o.alloc _) (v.o.ps.tag qj.o (by decide) (by decide)).1 (v.o.ps.tag qj.o (by decide) (by decide)).2;have uL:=T.cell 0;have uM:=T.cell 1;have uN:=T.cell 2;clear T;have K5:=R.blk (V.o.alloc _) (v.o.ps.tag V.o (by decide) (by decide)).1 (v.o.ps.tag V.o (by decide) (by decide)).2;have YP:=K5.cell 1;clear K5;have iw:=O ((At.alloc v.o _).add p4 R (by intro b hb;simp [Value.ownBlock] at hb;omega));clear p4 R))
 all_goals
  obtain rfl:=dW W.o;go_wp2_with fail;go_ret;exact aZ.ok rfl iw.o
end
section
variable {g:Nat} {tv:Value} {l:List Tok} {en:Int} {iv:Value} (hF:PF l)
include hF
theorem Ju (m:Nat)(w:World)(k:Nat)(xs:List NV)(nv:Value)(r:kX)(h:PS g tv l en iv w (k+1) xs nv)(hk:k+1≤l.length)(hn:xs.length≤k)(hw:Wf (aF xs))(hr:iq l en m .observe k (aF xs)=some r) :
  Calls Tryz.prog 128 #[.pointer (some ⟨g,0,none⟩),.agg #[.int .u8 (tg l k).kind,.string (aH (tx l k)),.int .i64 (pl l en k)]] w (aZ g tv l en iv w xs nv r):=by
 have C:=fun (f:Nat) (_:f≤m) (j:Job) (hj:isFn j=true)=>oG (g:=g) (tv:=tv) (en:=en) (iv:=iv) hF f j hj
 have CL:=fun (f:Nat) (_:f≤m) (e:El)=>oz (g:=g) (tv:=tv) (en:=en) (iv:=iv) hF f e
 have H:=O h;clear h;have A:=O ((At.refl H.o).alloc (.cells #[.int .u8 (tg l k).kind,.string (aH (tx l k)),.int .i64 (pl l en k)] 80));have vL:=O (bf.new w 80 #[.int .u8 (tg l k).kind,.string (aH (tx l k)),.int .i64 (pl l en k)]);have y:=O hw;clear hw;have hn0:(aF xs).length≤k:=by rw [dL];exact hn
 have hlen:=hF.len;unfold iq at hr
 have qV:=O hr;clear hr;go_in
 rcases fO qV.o with ⟨d,G⟩ | ⟨d,rfl⟩
 rotate_left
 ·have um:=O d;clear d;go_wp2_with fail;refine (mo g tv l en iv hF _ (k+1) _ _ A.o.ps (by omega) um.o).mono ?_;rintro e w1⟨rfl,Y⟩;unfold aW;go_wp2_with fail;exact⟨rfl,aZ.bad rfl ((H.o.low A.o.mv).trans (Y.mono (ak1 A.o.ps.lt)))⟩
 have E:=O G;clear G qV;have hlt1:=h_ d (by simp);have um:=O d;clear d;go_wp2_with fail;refine (kE g tv l en iv hF _ (k+1) _ _ A.o.ps (by omega) um.o).mono ?_;rintro e w1⟨rfl,p1,m1⟩;have qU:=O (A.o.ps.aY m1 vL.o);clear vL;have D:=O (A.o.step p1 m1);clear A;clear p1 m1;unfold iW;have jP:=O (qU.o.alloc (.cells #[.int .u8 (tg l (k+1)).kind,.string (aH (tx l (k+1))),.int .i64 (pl l en (k+1))] 80));clear qU;have nP:=O (bf.new w1 80 #[.int .u8 (tg l (k+1)).kind,.string (aH (tx l (k+1))),.int .i64 (pl l en (k+1))]);have u:=O (D.o.alloc (.cells #[.int .u8 (tg l (k+1)).kind,.string (aH (tx l (k+1))),.int .i64 (pl l en (k+1))] 80));clear D;rcases dP E.o with ⟨i,I⟩ | ⟨i,rfl⟩
 rotate_left
 ·have x:=O i;clear i;go_wp2_with fail;refine (f_ g tv l en iv hF [58] (.inr (by decide +kernel)) _ ((k+1)+1) _ _ u.o.ps (by omega) x.o).mono ?_;rintro e w2⟨rfl,Z⟩;unfold aW;go_wp2_with fail;exact⟨rfl,aZ.bad rfl ((H.o.low u.o.mv).trans (Z.mono (ak1 u.o.ps.lt)))⟩
 have F:=O I;clear I E;have hlt2:=cB i (by simp);have x:=O i;clear i;go_wp2_with fail;refine (eP g tv l en iv hF [58] (.inr (by decide +kernel)) _ ((k+1)+1) _ _ u.o.ps (by omega) x.o).mono ?_;rintro e w2⟨rfl,p2,Q⟩;have q:=O (u.o.ps.aY Q jP.o);have L:=O (u.o.ps.aY Q nP.o);clear jP nP;have a:=O (u.o.step p2 Q);clear u;clear p2 Q;rcases dY F.o with ⟨Sd,k3,AB,n,J⟩ | ⟨kb3,n,rfl⟩
 rotate_left
 ·have N:=O n;clear n;have fA:=q.o.cell 0;have fH:=q.o.cell 1;have fI:=q.o.cell 2;have sl0:=q.o.lt;have pV:=L.o.cell 1;have sl1:=L.o.lt;go_wp2_with fail;refine wp_region_held_drew (S:=fun t=>t.cell? ⟨w.heap.size,0,none⟩=some (.int .u8 (tg l k).kind)∧t.cell? ⟨w.heap.size,1,none⟩=some (.string (aH (tx l k)))∧t.cell? ⟨w.heap.size,2,none⟩=some (.int .i64 (pl l en k))∧t.cell? ⟨w1.heap.size,1,none⟩=some (.string (aH (tx l (k+1))))) (by kernel_rfl) ⟨fA,fH,fI,pV⟩ (fun c=>?_);refine dB 0 rfl c ?_;simp only [Act.put,akR,akS,akT];refine dB 1 rfl c ?_;simp only [Act.put,akR,akS,akT];refine dB 2 rfl c ?_;simp only [Act.put,akR,akS,akT];refine dB 3 rfl c ?_;simp only [Act.put,akR,akS,akT];refine dB 4 rfl c ?_;simp only [Act.put,akR,akS,akT];refine wpAnyH_ready (rs:=[5]) (by kernel_rfl) (by simp) ?_;refine gN (.s (.s (.s (.s (.s .z))))) (fun K hK=>?_);go_simp;refine (C m (ak0 _) .expr rfl _ (((k+1)+1)+1) _ _ _ a.o.ps.drew (by omega) (by rw [a.o.len];omega) (by rw [a.o.ns];exact y.o) (by rw [a.o.ns];exact N.o)).mono ?_;rintro e w3⟨rfl,hb3⟩;unfold aW;go_wp2_with fail;exact⟨rfl,aZ.bad rfl ((Below.drew (H.o.low a.o.mv)).trans hb3)⟩
 have N:=O n;clear n;have W:=O J;clear J F;have M:=O (dG N.o (by omega) y.o (Ids.nil _) (by simp));have X:=M.o.lo;have gf3:=M.o.few;have ge3:=M.o.le;have gn3:=M.o.len;simp only [Job.reads] at X
 have fA:=q.o.cell 0;have fH:=q.o.cell 1;have fI:=q.o.cell 2;have sl0:=q.o.lt;have pV:=L.o.cell 1;have sl1:=L.o.lt;go_wp2_with fail
 go_region_held3 (fun t=>t.cell? ⟨w.heap.size,0,none⟩=some (.int .u8 (tg l k).kind)∧t.cell? ⟨w.heap.size,1,none⟩=some (.string (aH (tx l k)))∧t.cell? ⟨w.heap.size,2,none⟩=some (.int .i64 (pl l en k))∧t.cell? ⟨w1.heap.size,1,none⟩=some (.string (aH (tx l (k+1)))))
  (first | go_keep|(go_split_ands;refine⟨?_,?_,?_,?_⟩ <;> assumption))
  (first
   | (go_at_call 157;refine (C m (ak0 _) .expr rfl _ (((k+1)+1)+1) _ _ _ a.o.ps.drew (by omega) (by rw [a.o.len];omega) (by rw [a.o.ns];exact y.o) (by rw [a.o.ns];exact N.o)).mono ?_;rintro e w3⟨rfl,ab0,Km,P⟩;have v:=O (a.o.drew.trans P);have B:=P.blk a.o.ps.drew q.o.drew (by decide) (by decide);have uH:=B.cell 0;have uI:=B.cell 1;have uJ:=B.cell 2;have YO:=B.lt;have qj:=O B;clear B;have U:=P.blk a.o.ps.drew L.o.drew (by decide) (by decide);have YM:=U.cell 1;have dl1:=U.lt;have V:=O U;clear U;have hz3:=v.o.mv.size;clear P)
   | (go_at_call 151;refine (gI g tv l en iv AB.length 44 _ _ _ (tx l (k+1)) 0 _ [hd Sd] _ k3 _ _ (v.o.ps.alloc _) (rA w3 (hd Sd)) v.o.len (by omega)).mono ?_;rintro e w4⟨rfl,F9,p4,R⟩;have T:=R.blk (qj.o.alloc _) (v.o.ps.tag qj.o (by decide) (by decide)).1 (v.o.ps.tag qj.o (by decide) (by decide)).2;have uL:=T.cell 0;have uM:=T.cell 1;have uN:=T.cell 2;clear T;have K5:=R.blk (V.o.alloc _) (v.o.ps.tag V.o (by decide) (by decide)).1 (v.o.ps.tag V.o (by decide) (by decide)).2;have YP:=K5.cell 1;clear K5;have iw:=O ((At.alloc v.o _).add p4 R (by intro b hb;simp [Value.ownBlock] at hb;omega));clear p4 R))
 all_goals
  obtain rfl:=dW W.o;go_wp2_with fail;go_ret;exact aZ.ok rfl iw.o
end
end
