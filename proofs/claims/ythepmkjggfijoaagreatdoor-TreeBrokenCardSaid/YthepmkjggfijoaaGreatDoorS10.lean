/-
  A part of the proof.
-/
import Derived.Test.YthepmkjggfijoaaGreatDoorSA
import Derived.Test.YthepmkjggfijoaaGreatDoorS08
set_option linter.all false
set_option maxRecDepth 100000
set_option maxHeartbeats 4000000
namespace Go.Proofs.YthepmkjggfijoaaGreatDoor
open Go.RowKit Mist
attribute [local go_sem] aj aH aS aB ak
section
variable {g:Nat} {tv:Value} {l:List Tok} {en:Int} {iv:Value} (hF:PF l)
include hF
theorem read_cmp (m:Nat)(C:∀ f,f≤m→IC g tv l en iv f (.lv .sum))(w:World)(k:Nat)(xs:List NV)(nv:Value)(r:j6)(h:PS g tv l en iv w k xs nv)(hk:k≤l.length)(hn:xs.length≤k)(hw:Wf (aA xs))
  (y c:Nat) (hb0:w.heap[y]? = some (.map (jF (ents .cmp) 0).toArray c)) (hr:thn (run l en m (.lv .sum) k (aA xs)) (fun a A D=>run l en m (.tail .cmp (hd a)) A D)=some r) :
  Calls Tryz.prog 233 #[.agg #[.map (some y),.func (.func 251) #[] #[],.bool true],.pointer (some ⟨g,0,none⟩)] w (aR g tv l en iv w xs nv r):=by
 have HC:=O C;clear C;have H:=O h;clear h;have HW:=O hw;clear hw;have FF:=O (H.o.new (aaJ _));have X:=O (aC.new w 219 #[.map (some y),.func (.func 251) #[] #[],.bool true]);have H0:=O (H.o.alloc (.cells #[.map (some y),.func (.func 251) #[] #[],.bool true] 219));have U:=O (show (w.alloc (.cells #[.map (some y),.func (.func 251) #[] #[],.bool true] 219)).heap[y]? = _ from gT hb0 _);clear hb0;have HR:=O hr;clear hr;have I:=hF.len;go_in
 go_wp2_with fail;rcases T:run l en m (.lv .sum) k (aA xs) with _ | x
 ·have:=HR.o;rw [T] at this;cases this
 have B:=O T;clear T;have N:=O (show thn (some x) (fun a A D=>run l en m (.tail .cmp (hd a)) A D)=some r by have:=HR.o;rwa [B.o] at this)
 cases x with
 | bad kb =>
  obtain rfl:j6.bad kb=r:=aaP N.o;refine (HC.o m (aaJ _) _ k xs nv _ H0.o hk hn HW.o B.o).mono ?_;rintro e w1⟨rfl,hb⟩;unfold aI;go_wp2_with fail;exact⟨rfl,aR.bad rfl ((ah (Below.refl _ _) (aaK H.o.lt)).trans hb)⟩
 | ok ks A D =>
  have u:=O (aW B.o hk HW.o (Ids.nil _) (by simp));refine (HC.o m (aaJ _) _ k xs nv _ H0.o hk hn HW.o B.o).mono ?_;rintro e w1⟨rfl,ext,gW,ha⟩;have v:=O ha;clear ha;have HB1:=O (v.o.blk H0.o X.o (by decide) (by decide));have TN:=O (v.o.map H0.o U.o);have M:=O (At.from_ v.o);have P:=O (show run l en m (.tail .cmp (hd ks)) A (aA (xs ++ ext))=some r by rw [v.o.ns];exact N.o);clear HR N B;have hk1:=u.o.le;have hf1:=u.o.few;rw [aD] at hf1
  have hl1:=v.o.len;have V:=O (show Wf (aA (xs ++ ext)) by rw [v.o.ns];exact u.o.wf);have qP:=O (show 0≤hd ks∧hd ks < ((xs ++ ext).length:Int) by rw [hl1];exact u.o.hd);have hcn:(xs ++ ext).length≤A:=by omega
  clear hl1 hf1 u v U X;obtain⟨t,EF⟩:∃ t,t=hd ks:=⟨_,rfl⟩;rw [← EF] at P qP ⊢
  clear EF;have rC:=O M.o.ns;go_wp2_with fail
  go_loopw [5] (fun a wr=>∃ (f d:Nat) (ext:List NV) (eO:Value) (t:Int),a=.int .i64 t∧f≤m∧d≤l.length∧(xs ++ ext).length≤d∧Hid (run l en f (.tail .cmp t) d (aA (xs ++ ext))=some r)∧Hid (Wf (aA (xs ++ ext)))∧Hid (0≤t∧t < ((xs ++ ext).length:Int)) ∧
    Hid (At g tv l en iv w xs nv d (aA (xs ++ ext)) wr ext eO)∧Hid (aC wr w.heap.size 219 #[.map (some y),.func (.func 251) #[] #[],.bool true])∧Hid (wr.heap[y]? = some (.map (jF (ents .cmp) 0).toArray c))) (fun _ wr=>nG g l.length wr)
  case atStart=>exact⟨m,A,ext,gW,t,rfl,aaJ _,hk1,hcn,P,V,qP,by rw [rC.o];exact M,HB1,TN⟩
  case round =>
   clear M HB1 TN P V qP hcn hk1 rC;obtain⟨f,d,ext,eO,t,rfl,hfm,hk',hn',nH,V,qP,v,X,U⟩:=hrel
   obtain⟨f,rfl⟩:∃ f0,f=f0+1:=⟨f - 1,by
    rcases Nat.eq_zero_or_pos f with h | h
    ·subst h;have:=nH.o;rw [run] at this;cases this
    ·omega⟩
   have Lp:=O (v.o.ps.nG (n:=l.length));go_wp2_with fail;refine (h_ g tv l en iv _ d _ eO v.o.ps hk' I).mono ?_;rintro e L⟨rfl,F⟩;have j:=O ((v.o.below F).alloc (.cells #[.int .u8 (tg l d).kind,.string (aM (tx l d)),.int .i64 (pl l en d)] 68));have FC:=(X.o.below F X.o.lt).alloc (.cells #[.int .u8 (tg l d).kind,.string (aM (tx l d)),.int .i64 (pl l en d)] 68);have Ub:=aC.new L 68 #[.int .u8 (tg l d).kind,.string (aM (tx l d)),.int .i64 (pl l en d)];have W:=O (gT ((F.block y (aaG.1 U.o).1).trans U.o) (.cells #[.int .u8 (tg l d).kind,.string (aM (tx l d)),.int .i64 (pl l en d)] 68));clear F;have hlk:=vv _ .cmp y c W.o (tx l d);have c0:=FC.cell 0;have hl2:w.heap.size < L.heap.size+1:=by have:=FC.lt;simpa using this
   have Bh:=O FC;clear FC;have Bl:=O Ub;clear Ub;by_cases q:fB .cmp (tx l d)=0
   ·have J:((fB .cmp (tx l d):Int) == 0)=true:=by simp [q]
    have Q:=O (show r=.ok [t] d (aA (xs ++ ext)) by have:=nH.o;rw [nN q] at this;exact (aaP this).symm);clear q;go_wp2_with fail;go_ret;rw [Q.o];exact aR.ok rfl j.o
   ·have J:((fB .cmp (tx l d):Int) == 0)=false:=by simp [q]
    have hkl:=(qo q).1
    have xE:=O (show thn (run l en f (.lv .sum) (d+1) (aA (xs ++ ext))) (fun b A D=>thn (add ⟨fB .cmp (tx l d),[],0,[t,hd b],pl l en d⟩ A D) fun c k2 fF=>some (.ok [hd c] k2 fF))=some r by
     have:=nH.o;rw [qM q] at this;exact this)
    clear q nH;go_wp2_with fail;refine (nO g tv l en iv _ d _ eO j.o.ps hk' I).mono ?_;rintro e w3⟨rfl,p3,m3⟩;have R:=O (j.o.step p3 m3);have FD:=j.o.ps.aU m3 Bh.o;have Z:=j.o.ps.aU m3 Bl.o;have Jg:=O ((m3.block y (aaG.1 W.o).1 (j.o.ps.jd W.o).1 (j.o.ps.jd W.o).2).trans W.o);clear m3 p3 hlk c0 hl2 J;have s0:=Z.cell 0;have s1:=Z.cell 1;have s2:=Z.cell 2;have s3:=FD.cell 1;have hl3:=Z.lt;have hl4:=FD.lt;have Ld:=O FD;clear FD;have Le:=O Z;clear Z;clear j Bh Bl W X U v;go_wp2_with fail;rcases T:run l en f (.lv .sum) (d+1) (aA (xs ++ ext)) with _ | x
    ·have:=xE.o;rw [T] at this;cases this
    have B:=O T;clear T;have HG2:=O (show thn (some x) _=some r by have:=xE.o;rw [B.o] at this;exact this);clear xE
    cases x with
    | bad kb =>
     obtain rfl:j6.bad kb=r:=aaP HG2.o;have xA:=O (H.o.low R.o.mv);refine wp_region_held_drew (S:=fun G=>G.cell? ⟨L.heap.size,0,none⟩=some (.int .u8 (tg l d).kind)∧G.cell? ⟨L.heap.size,1,none⟩=some (.string (aM (tx l d)))∧G.cell? ⟨L.heap.size,2,none⟩=some (.int .i64 (pl l en d))∧G.cell? ⟨w.heap.size,1,none⟩=some (.func (.func 251) #[] #[])) (by kernel_rfl) ⟨s0,s1,s2,s3⟩ (fun i=>?_);refine bf 0 rfl i ?_;simp only [Act.put,aaA,aaB,aaC];refine bf 1 rfl i ?_;simp only [Act.put,aaA,aaB,aaC];refine bf 2 rfl i ?_;simp only [Act.put,aaA,aaB,aaC];refine bf 3 rfl i ?_;simp only [Act.put,aaA,aaB,aaC];refine bf 4 rfl i ?_;simp only [Act.put,aaA,aaB,aaC];refine bf 5 rfl i ?_;simp only [Act.put,aaA,aaB,aaC];refine bf 6 rfl i ?_;simp only [Act.put,aaA,aaB,aaC];refine wpAnyH_ready (rs:=[7]) (by kernel_rfl) (by simp) ?_;refine fJ (.s (.s (.s (.s (.s (.s (.s .z))))))) (fun K hK=>?_);go_simp;refine (HC.o f (by omega) _ (d+1) (xs ++ ext) eO _ R.o.ps.drew (by omega) (by omega) V.o B.o).mono ?_;rintro e w4⟨rfl,hb4⟩;unfold aI;go_wp2_with fail;exact⟨rfl,aR.bad rfl ((Below.drew xA.o).trans hb4)⟩
    | ok kb A D =>
     have u:=O (aW B.o (by omega) V.o (Ids.nil _) (by simp))
     go_region_held3 (fun G=>G.cell? ⟨L.heap.size,0,none⟩=some (.int .u8 (tg l d).kind)∧G.cell? ⟨L.heap.size,1,none⟩=some (.string (aM (tx l d)))∧G.cell? ⟨L.heap.size,2,none⟩=some (.int .i64 (pl l en d))∧G.cell? ⟨w.heap.size,1,none⟩=some (.func (.func 251) #[] #[]))
      (first | go_keep|(go_split_ands;refine⟨?_,?_,?_,?_⟩ <;> assumption))
      (first
       | (go_at_call 251;refine (HC.o f (by omega) _ (d+1) (xs ++ ext) eO _ R.o.ps.drew (by omega) (by omega) V.o B.o).mono ?_;rintro e w4⟨rfl,j5,yH,vM⟩;have E:=O vM;clear vM;have iT:=O (R.o.drew.trans E.o);have Y:=E.o.blk R.o.ps.drew Le.o.drew (by decide) (by decide);have FE:=E.o.blk R.o.ps.drew Ld.o.drew (by decide) (by decide);have d0:=Y.cell 0;have d1:=Y.cell 1;have d2:=Y.cell 2;have d3:=FE.cell 1;have hl5:=Y.lt;have Xy:=FE.lt;have Ev:=O (E.o.map R.o.ps.drew Jg.o);have vQ:=O FE;clear FE;have vR:=O Y;clear Y)
       | (go_at_call 204;refine (gB g tv l en iv D.length _ _ _ _ _ _ _ [t,hd kb] _ A (xs ++ (ext ++ j5)) yH (iT.o.ps.alloc _) (ug w4 t (hd kb)) iT.o.len (by have h1:=iT.o.len;have h2:=u.o.few;have h3:=u.o.le;simp only [aD] at h2;omega)).mono ?_;rintro e w5⟨rfl,Fu,p5,m5⟩;have FH:=m5.blk (vR.o.alloc _) (E.o.ps.tag vR.o (by decide) (by decide)).1 (E.o.ps.tag vR.o (by decide) (by decide)).2;have LQ:=m5.blk (vQ.o.alloc _) (E.o.ps.tag vQ.o (by decide) (by decide)).1 (E.o.ps.tag vQ.o (by decide) (by decide)).2;have e0:=FH.cell 0;have e1:=FH.cell 1;have e2:=FH.cell 2;have e3:=LQ.cell 1;have HM5:=O ((m5.block y (by have:=(aaG.1 Ev.o).1;simp;omega) (E.o.ps.jd Ev.o).1 (E.o.ps.jd Ev.o).2).trans (gT Ev.o _));have xw:=O LQ;clear LQ;have jX:=O ((At.alloc iT.o _).add p5 m5 (by intro b hb;simp [Value.ownBlock] at hb;omega));clear p5 m5 FH))
     all_goals
      have g1:=u.o.lo;have g2:=u.o.few;have g3:=u.o.le;have g4:=iT.o.len;have g5:=u.o.len;simp only [aD] at g2 g5
      simp only [Job.reads] at g1
      have b2:=xw.o.cell 2;have hlb:=xw.o.lt;clear e0 e1 e2 e3 d0 d1 d2 d3 s0 s1 s2 s3 hl3 hl4 hl5 Xy
      have Q:=O (show r=.ok [((D.length:Nat):Int)] A (D ++ [⟨fB .cmp (tx l d),[],0,[t,hd kb],pl l en d⟩]) by
       exact (aaP HG2.o).symm)
      clear g4;go_wp2_with fail;go_ret;rw [Q.o];exact aR.ok rfl jX.o
end
section
variable {g:Nat} {tv:Value} {l:List Tok} {en:Int} {iv:Value} (hF:PF l)
include hF
theorem read_sum (m:Nat)(C:∀ f,f≤m→IC g tv l en iv f (.lv .term))(w:World)(k:Nat)(xs:List NV)(nv:Value)(r:j6)(h:PS g tv l en iv w k xs nv)(hk:k≤l.length)(hn:xs.length≤k)(hw:Wf (aA xs))
  (A c:Nat) (hb0:w.heap[A]? = some (.map (jF (ents .sum) 0).toArray c)) (hr:thn (run l en m (.lv .term) k (aA xs)) (fun a v E=>run l en m (.tail .sum (hd a)) v E)=some r) :
  Calls Tryz.prog 233 #[.agg #[.map (some A),.func (.func 255) #[] #[],.bool false],.pointer (some ⟨g,0,none⟩)] w (aR g tv l en iv w xs nv r):=by
 have HC:=O C;clear C;have H:=O h;clear h;have HW:=O hw;clear hw;have FF:=O (H.o.new (aaJ _));have Y:=O (aC.new w 219 #[.map (some A),.func (.func 255) #[] #[],.bool false]);have H0:=O (H.o.alloc (.cells #[.map (some A),.func (.func 255) #[] #[],.bool false] 219));have V:=O (show (w.alloc (.cells #[.map (some A),.func (.func 255) #[] #[],.bool false] 219)).heap[A]? = _ from gT hb0 _);clear hb0;have HR:=O hr;clear hr;have I:=hF.len;go_in
 go_wp2_with fail;rcases R:run l en m (.lv .term) k (aA xs) with _ | x
 ·have:=HR.o;rw [R] at this;cases this
 have B:=O R;clear R;have N:=O (show thn (some x) (fun a v E=>run l en m (.tail .sum (hd a)) v E)=some r by have:=HR.o;rwa [B.o] at this)
 cases x with
 | bad kb =>
  obtain rfl:j6.bad kb=r:=aaP N.o;refine (HC.o m (aaJ _) _ k xs nv _ H0.o hk hn HW.o B.o).mono ?_;rintro e w1⟨rfl,hb⟩;unfold aI;go_wp2_with fail;exact⟨rfl,aR.bad rfl ((ah (Below.refl _ _) (aaK H.o.lt)).trans hb)⟩
 | ok ks v E =>
  have u:=O (aW B.o hk HW.o (Ids.nil _) (by simp));refine (HC.o m (aaJ _) _ k xs nv _ H0.o hk hn HW.o B.o).mono ?_;rintro e w1⟨rfl,ext,gW,ha⟩;have y:=O ha;clear ha;have HB1:=O (y.o.blk H0.o Y.o (by decide) (by decide));have TN:=O (y.o.map H0.o V.o);have M:=O (At.from_ y.o);have P:=O (show run l en m (.tail .sum (hd ks)) v (aA (xs ++ ext))=some r by rw [y.o.ns];exact N.o);clear HR N B;have hk1:=u.o.le;have hf1:=u.o.few;rw [aD] at hf1
  have hl1:=y.o.len;have W:=O (show Wf (aA (xs ++ ext)) by rw [y.o.ns];exact u.o.wf);have qP:=O (show 0≤hd ks∧hd ks < ((xs ++ ext).length:Int) by rw [hl1];exact u.o.hd);have hcn:(xs ++ ext).length≤v:=by omega
  clear hl1 hf1 u y V Y;obtain⟨j,EF⟩:∃ j,j=hd ks:=⟨_,rfl⟩;rw [← EF] at P qP ⊢
  clear EF;have rC:=O M.o.ns;go_wp2_with fail
  go_loopw [5] (fun a wr=>∃ (f d:Nat) (ext:List NV) (eO:Value) (j:Int),a=.int .i64 j∧f≤m∧d≤l.length∧(xs ++ ext).length≤d∧Hid (run l en f (.tail .sum j) d (aA (xs ++ ext))=some r)∧Hid (Wf (aA (xs ++ ext)))∧Hid (0≤j∧j < ((xs ++ ext).length:Int)) ∧
    Hid (At g tv l en iv w xs nv d (aA (xs ++ ext)) wr ext eO)∧Hid (aC wr w.heap.size 219 #[.map (some A),.func (.func 255) #[] #[],.bool false])∧Hid (wr.heap[A]? = some (.map (jF (ents .sum) 0).toArray c))) (fun _ wr=>nG g l.length wr)
  case atStart=>exact⟨m,v,ext,gW,j,rfl,aaJ _,hk1,hcn,P,W,qP,by rw [rC.o];exact M,HB1,TN⟩
  case round =>
   clear M HB1 TN P W qP hcn hk1 rC;obtain⟨f,d,ext,eO,j,rfl,hfm,hk',hn',nH,W,qP,y,Y,V⟩:=hrel
   obtain⟨f,rfl⟩:∃ f0,f=f0+1:=⟨f - 1,by
    rcases Nat.eq_zero_or_pos f with h | h
    ·subst h;have:=nH.o;rw [run] at this;cases this
    ·omega⟩
   have Lp:=O (y.o.ps.nG (n:=l.length));go_wp2_with fail;refine (h_ g tv l en iv _ d _ eO y.o.ps hk' I).mono ?_;rintro e L⟨rfl,F⟩;have q:=O ((y.o.below F).alloc (.cells #[.int .u8 (tg l d).kind,.string (aM (tx l d)),.int .i64 (pl l en d)] 68));have FC:=(Y.o.below F Y.o.lt).alloc (.cells #[.int .u8 (tg l d).kind,.string (aM (tx l d)),.int .i64 (pl l en d)] 68);have Ub:=aC.new L 68 #[.int .u8 (tg l d).kind,.string (aM (tx l d)),.int .i64 (pl l en d)];have X:=O (gT ((F.block A (aaG.1 V.o).1).trans V.o) (.cells #[.int .u8 (tg l d).kind,.string (aM (tx l d)),.int .i64 (pl l en d)] 68));clear F;have hlk:=vv _ .sum A c X.o (tx l d);have c0:=FC.cell 0;have hl2:w.heap.size < L.heap.size+1:=by have:=FC.lt;simpa using this
   have Bh:=O FC;clear FC;have Bl:=O Ub;clear Ub;by_cases t:fB .sum (tx l d)=0
   ·have J:((fB .sum (tx l d):Int) == 0)=true:=by simp [t]
    have HST:=O (show r=.ok [j] d (aA (xs ++ ext)) by have:=nH.o;rw [nN t] at this;exact (aaP this).symm);clear t;go_wp2_with fail;go_ret;rw [HST.o];exact aR.ok rfl q.o
   ·have J:((fB .sum (tx l d):Int) == 0)=false:=by simp [t]
    have hkl:=(qo t).1
    have xE:=O (show thn (run l en f (.lv .term) (d+1) (aA (xs ++ ext))) (fun b v E=>thn (add ⟨fB .sum (tx l d),[],0,[j,hd b],pl l en d⟩ v E) fun c k2 fF=>run l en f (.tail .sum (hd c)) k2 fF)=some r by
     have:=nH.o;rw [qM t] at this;exact this)
    clear t nH;go_wp2_with fail;refine (nO g tv l en iv _ d _ eO q.o.ps hk' I).mono ?_;rintro e w3⟨rfl,p3,m3⟩;have Q:=O (q.o.step p3 m3);have FD:=q.o.ps.aU m3 Bh.o;have yS:=q.o.ps.aU m3 Bl.o;have Jg:=O ((m3.block A (aaG.1 X.o).1 (q.o.ps.jd X.o).1 (q.o.ps.jd X.o).2).trans X.o);clear m3 p3 hlk c0 hl2 J;have s0:=yS.cell 0;have s1:=yS.cell 1;have s2:=yS.cell 2;have s3:=FD.cell 1;have hl3:=yS.lt;have hl4:=FD.lt;have Ld:=O FD;clear FD;have Le:=O yS;clear yS;clear q Bh Bl X Y V y;go_wp2_with fail;rcases R:run l en f (.lv .term) (d+1) (aA (xs ++ ext)) with _ | x
    ·have:=xE.o;rw [R] at this;cases this
    have B:=O R;clear R;have HG2:=O (show thn (some x) _=some r by have:=xE.o;rw [B.o] at this;exact this);clear xE
    cases x with
    | bad kb =>
     obtain rfl:j6.bad kb=r:=aaP HG2.o;have xA:=O (H.o.low Q.o.mv);refine wp_region_held_drew (S:=fun G=>G.cell? ⟨L.heap.size,0,none⟩=some (.int .u8 (tg l d).kind)∧G.cell? ⟨L.heap.size,1,none⟩=some (.string (aM (tx l d)))∧G.cell? ⟨L.heap.size,2,none⟩=some (.int .i64 (pl l en d))∧G.cell? ⟨w.heap.size,1,none⟩=some (.func (.func 255) #[] #[])) (by kernel_rfl) ⟨s0,s1,s2,s3⟩ (fun i=>?_);refine bf 0 rfl i ?_;simp only [Act.put,aaA,aaB,aaC];refine bf 1 rfl i ?_;simp only [Act.put,aaA,aaB,aaC];refine bf 2 rfl i ?_;simp only [Act.put,aaA,aaB,aaC];refine bf 3 rfl i ?_;simp only [Act.put,aaA,aaB,aaC];refine bf 4 rfl i ?_;simp only [Act.put,aaA,aaB,aaC];refine bf 5 rfl i ?_;simp only [Act.put,aaA,aaB,aaC];refine bf 6 rfl i ?_;simp only [Act.put,aaA,aaB,aaC];refine wpAnyH_ready (rs:=[7]) (by kernel_rfl) (by simp) ?_;refine fJ (.s (.s (.s (.s (.s (.s (.s .z))))))) (fun K hK=>?_);go_simp;refine (HC.o f (by omega) _ (d+1) (xs ++ ext) eO _ Q.o.ps.drew (by omega) (by omega) W.o B.o).mono ?_;rintro e U⟨rfl,hb4⟩;unfold aI;go_wp2_with fail;exact⟨rfl,aR.bad rfl ((Below.drew xA.o).trans hb4)⟩
    | ok kb v E =>
     have u:=O (aW B.o (by omega) W.o (Ids.nil _) (by simp))
     go_region_held3 (fun G=>G.cell? ⟨L.heap.size,0,none⟩=some (.int .u8 (tg l d).kind)∧G.cell? ⟨L.heap.size,1,none⟩=some (.string (aM (tx l d)))∧G.cell? ⟨L.heap.size,2,none⟩=some (.int .i64 (pl l en d))∧G.cell? ⟨w.heap.size,1,none⟩=some (.func (.func 255) #[] #[]))
      (first | go_keep|(go_split_ands;refine⟨?_,?_,?_,?_⟩ <;> assumption))
      (first
       | (go_at_call 255;refine (HC.o f (by omega) _ (d+1) (xs ++ ext) eO _ Q.o.ps.drew (by omega) (by omega) W.o B.o).mono ?_;rintro e U⟨rfl,T,yH,vM⟩;have D:=O vM;clear vM;have iT:=O (Q.o.drew.trans D.o);have Z:=D.o.blk Q.o.ps.drew Le.o.drew (by decide) (by decide);have FE:=D.o.blk Q.o.ps.drew Ld.o.drew (by decide) (by decide);have d0:=Z.cell 0;have d1:=Z.cell 1;have d2:=Z.cell 2;have d3:=FE.cell 1;have hl5:=Z.lt;have Xy:=FE.lt;have Ev:=O (D.o.map Q.o.ps.drew Jg.o);have vQ:=O FE;clear FE;have vR:=O Z;clear Z)
       | (go_at_call 204;refine (gB g tv l en iv E.length _ _ _ _ _ _ _ [j,hd kb] _ v (xs ++ (ext ++ T)) yH (iT.o.ps.alloc _) (ug U j (hd kb)) iT.o.len (by have h1:=iT.o.len;have h2:=u.o.few;have h3:=u.o.le;simp only [aD] at h2;omega)).mono ?_;rintro e w5⟨rfl,Fu,p5,m5⟩;have FH:=m5.blk (vR.o.alloc _) (D.o.ps.tag vR.o (by decide) (by decide)).1 (D.o.ps.tag vR.o (by decide) (by decide)).2;have LQ:=m5.blk (vQ.o.alloc _) (D.o.ps.tag vQ.o (by decide) (by decide)).1 (D.o.ps.tag vQ.o (by decide) (by decide)).2;have e0:=FH.cell 0;have e1:=FH.cell 1;have e2:=FH.cell 2;have e3:=LQ.cell 1;have HM5:=O ((m5.block A (by have:=(aaG.1 Ev.o).1;simp;omega) (D.o.ps.jd Ev.o).1 (D.o.ps.jd Ev.o).2).trans (gT Ev.o _));have xw:=O LQ;clear LQ;have jX:=O ((At.alloc iT.o _).add p5 m5 (by intro b hb;simp [Value.ownBlock] at hb;omega));clear p5 m5 FH))
     all_goals
      have g1:=u.o.lo;have g2:=u.o.few;have g3:=u.o.le;have g4:=iT.o.len;have g5:=u.o.len;simp only [aD] at g2 g5
      simp only [Job.reads] at g1
      have b2:=xw.o.cell 2;have hlb:=xw.o.lt;clear e0 e1 e2 e3 d0 d1 d2 d3 s0 s1 s2 s3 hl3 hl4 hl5 Xy
      have HRN:=O (show run l en f (.tail .sum ((E.length:Nat):Int)) v (aA (xs ++ (ext ++ T ++ [(⟨fB .sum (tx l d),[],0,[j,hd kb],pl l en d⟩,.slice (some ⟨U.heap.size,0,none⟩) 2 2)])))=some r by
       rw [jX.o.ns];exact HG2.o)
      have HWN:=O (show Wf (aA (xs ++ (ext ++ T ++ [(⟨fB .sum (tx l d),[],0,[j,hd kb],pl l en d⟩,.slice (some ⟨U.heap.size,0,none⟩) 2 2)]))) by
       rw [jX.o.ns];exact u.o.wf.add (Ids.cons (by have:=qP.o;omega) (Ids.cons u.o.hd (Ids.nil _))))
      have HAN:=O (show At g tv l en iv w xs nv v (aA (xs ++ (ext ++ T ++ [(⟨fB .sum (tx l d),[],0,[j,hd kb],pl l en d⟩,.slice (some ⟨U.heap.size,0,none⟩) 2 2)]))) w5 (ext ++ T ++ [(⟨fB .sum (tx l d),[],0,[j,hd kb],pl l en d⟩,.slice (some ⟨U.heap.size,0,none⟩) 2 2)]) Fu by
       rw [jX.o.ns];exact jX.o)
      have hln:(xs ++ (ext ++ T ++ [((⟨fB .sum (tx l d),[],0,[j,hd kb],pl l en d⟩:Nd),Value.slice (some ⟨U.heap.size,0,none⟩) 2 2)])).length=(xs ++ (ext ++ T)).length+1:=by simp;omega
      have QU:=O hln;clear hln;have Jf:=O g4;clear g4;go_wp2_with fail
      refine⟨⟨f,v,_,Fu,_,rfl,by omega,g3,by rw [QU.o,Jf.o];omega,HRN,HWN,O ⟨by omega,by rw [QU.o,Jf.o];omega⟩,HAN,xw,HM5⟩,?_⟩
      rw [Lp.o,jX.o.ps.nG];omega
end
end Go.Proofs.YthepmkjggfijoaaGreatDoor
