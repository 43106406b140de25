/-
  A part of the proof.
-/
import Derived.Test.YthepmkjggfijoaaGreatDoorSA
import Derived.Test.YthepmkjggfijoaaGreatDoorS08
set_option linter.all false
set_option maxRecDepth 100000
set_option maxHeartbeats 4000000
open Go.Lib (hid)
namespace Go.Proofs.YthepmkjggfijoaaGreatDoor
open Go.RowKit Mist
attribute [local go_sem] aj aH aS aB ak
section
variable {g:Nat} {tv:Value} {l:List Tok} {en:Int} {iv:Value} (hF:PF l)
include hF
theorem read_cmp (m:Nat)(C:∀ f,f≤m→IC g tv l en iv f (.lv .sum))(w:World)(k:Nat)(xs:List NV)(nv:Value)(r:j6)(h:PS g tv l en iv w k xs nv)(hk:k≤l.length)(hn:xs.length≤k)(hw:Wf (aA xs))
  (b0 c:Nat) (hb0:w.heap[b0]? = some (.map (jF (ents .cmp) 0).toArray c)) (hr:thn (run l en m (.lv .sum) k (aA xs)) (fun a k1 aJ=>run l en m (.tail .cmp (hd a)) k1 aJ)=some r) :
  Calls Tryz.prog 233 #[.agg #[.map (some b0),.func (.func 251) #[] #[],.bool true],.pointer (some ⟨g,0,none⟩)] w (aR g tv l en iv w xs nv r):=by
 have HC:=hid C;clear C;have H:=hid h;clear h;have HW:=hid hw;clear hw;have FF:=hid (H.out.new (aaJ _));have vL:=hid (aC.new w 219 #[.map (some b0),.func (.func 251) #[] #[],.bool true]);have H0:=hid (H.out.alloc (.cells #[.map (some b0),.func (.func 251) #[] #[],.bool true] 219));have HM:=hid (show (w.alloc (.cells #[.map (some b0),.func (.func 251) #[] #[],.bool true] 219)).heap[b0]? = _ from gT hb0 _);clear hb0;have HR:=hid hr;clear hr;have hlen:=hF.len;go_in
 go_wp2_with fail;rcases hx:run l en m (.lv .sum) k (aA xs) with _ | x
 ·have:=HR.out;rw [hx] at this;cases this
 have HX:=hid hx;clear hx;have HR2:=hid (show thn (some x) (fun a k1 aJ=>run l en m (.tail .cmp (hd a)) k1 aJ)=some r by have:=HR.out;rwa [HX.out] at this)
 cases x with
 | bad kb =>
  obtain rfl:j6.bad kb=r:=aaP HR2.out;refine (HC.out m (aaJ _) _ k xs nv _ H0.out hk hn HW.out HX.out).mono ?_;rintro e w1⟨rfl,hb⟩;unfold aI;go_wp2_with fail;exact⟨rfl,aR.bad rfl ((ah (Below.refl _ _) (aaK H.out.lt)).trans hb)⟩
 | ok ks k1 aJ =>
  have GO:=hid (aW HX.out hk HW.out (Ids.nil _) (by simp));refine (HC.out m (aaJ _) _ k xs nv _ H0.out hk hn HW.out HX.out).mono ?_;rintro e w1⟨rfl,ext,gW,ha⟩;have HA:=hid ha;clear ha;have HB1:=hid (HA.out.blk H0.out vL.out (by decide) (by decide));have TN:=hid (HA.out.map H0.out HM.out);have HA1:=hid (At.from_ HA.out);have HR3:=hid (show run l en m (.tail .cmp (hd ks)) k1 (aA (xs ++ ext))=some r by rw [HA.out.ns];exact HR2.out);clear HR HR2 HX;have hk1:=GO.out.le;have hf1:=GO.out.few;rw [aD] at hf1
  have hl1:=HA.out.len;have nA:=hid (show Wf (aA (xs ++ ext)) by rw [HA.out.ns];exact GO.out.wf);have qP:=hid (show 0≤hd ks∧hd ks < ((xs ++ ext).length:Int) by rw [hl1];exact GO.out.hd);have hcn:(xs ++ ext).length≤k1:=by omega
  clear hl1 hf1 GO HA HM vL;obtain⟨av,EF⟩:∃ av,av=hd ks:=⟨_,rfl⟩;rw [← EF] at HR3 qP ⊢
  clear EF;have rC:=hid HA1.out.ns;go_wp2_with fail
  go_loopw [5] (fun a wr=>∃ (f k':Nat) (ext:List NV) (eO:Value) (av:Int),a=.int .i64 av∧f≤m∧k'≤l.length∧(xs ++ ext).length≤k'∧Hid (run l en f (.tail .cmp av) k' (aA (xs ++ ext))=some r)∧Hid (Wf (aA (xs ++ ext)))∧Hid (0≤av∧av < ((xs ++ ext).length:Int)) ∧
    Hid (At g tv l en iv w xs nv k' (aA (xs ++ ext)) wr ext eO)∧Hid (aC wr w.heap.size 219 #[.map (some b0),.func (.func 251) #[] #[],.bool true])∧Hid (wr.heap[b0]? = some (.map (jF (ents .cmp) 0).toArray c))) (fun _ wr=>nG g l.length wr)
  case atStart=>exact⟨m,k1,ext,gW,av,rfl,aaJ _,hk1,hcn,HR3,nA,qP,by rw [rC.out];exact HA1,HB1,TN⟩
  case round =>
   clear HA1 HB1 TN HR3 nA qP hcn hk1 rC;obtain⟨f,k',ext,eO,av,rfl,hfm,hk',hn',nH,nA,qP,HA,vL,HM⟩:=hrel
   obtain⟨f,rfl⟩:∃ f0,f=f0+1:=⟨f - 1,by
    rcases Nat.eq_zero_or_pos f with h | h
    ·subst h;have:=nH.out;rw [run] at this;cases this
    ·omega⟩
   have Lp:=hid (HA.out.ps.nG (n:=l.length));go_wp2_with fail;refine (h_ g tv l en iv _ k' _ eO HA.out.ps hk' hlen).mono ?_;rintro e w2⟨rfl,hb2⟩;have HA2:=hid ((HA.out.below hb2).alloc (.cells #[.int .u8 (tg l k').kind,.string (aM (tx l k')),.int .i64 (pl l en k')] 68));have FC:=(vL.out.below hb2 vL.out.lt).alloc (.cells #[.int .u8 (tg l k').kind,.string (aM (tx l k')),.int .i64 (pl l en k')] 68);have Ub:=aC.new w2 68 #[.int .u8 (tg l k').kind,.string (aM (tx l k')),.int .i64 (pl l en k')];have qj:=hid (gT ((hb2.block b0 (aaG.1 HM.out).1).trans HM.out) (.cells #[.int .u8 (tg l k').kind,.string (aM (tx l k')),.int .i64 (pl l en k')] 68));clear hb2;have hlk:=vv _ .cmp b0 c qj.out (tx l k');have c0:=FC.cell 0;have hl2:w.heap.size < w2.heap.size+1:=by have:=FC.lt;simpa using this
   have Bh:=hid FC;clear FC;have Bl:=hid Ub;clear Ub;by_cases hop:fB .cmp (tx l k')=0
   ·have hop':((fB .cmp (tx l k'):Int) == 0)=true:=by simp [hop]
    have HST:=hid (show r=.ok [av] k' (aA (xs ++ ext)) by have:=nH.out;rw [nN hop] at this;exact (aaP this).symm);clear hop;go_wp2_with fail;go_ret;rw [HST.out];exact aR.ok rfl HA2.out
   ·have hop':((fB .cmp (tx l k'):Int) == 0)=false:=by simp [hop]
    have hkl:=(qo hop).1
    have xE:=hid (show thn (run l en f (.lv .sum) (k'+1) (aA (xs ++ ext))) (fun b k1 aJ=>thn (add ⟨fB .cmp (tx l k'),[],0,[av,hd b],pl l en k'⟩ k1 aJ) fun c k2 fF=>some (.ok [hd c] k2 fF))=some r by
     have:=nH.out;rw [qM hop] at this;exact this)
    clear hop nH;go_wp2_with fail;refine (nO g tv l en iv _ k' _ eO HA2.out.ps hk' hlen).mono ?_;rintro e w3⟨rfl,p3,m3⟩;have gM:=hid (HA2.out.step p3 m3);have FD:=HA2.out.ps.aU m3 Bh.out;have yS:=HA2.out.ps.aU m3 Bl.out;have Jg:=hid ((m3.block b0 (aaG.1 qj.out).1 (HA2.out.ps.jd qj.out).1 (HA2.out.ps.jd qj.out).2).trans qj.out);clear m3 p3 hlk c0 hl2 hop';have s0:=yS.cell 0;have s1:=yS.cell 1;have s2:=yS.cell 2;have s3:=FD.cell 1;have hl3:=yS.lt;have hl4:=FD.lt;have Ld:=hid FD;clear FD;have Le:=hid yS;clear yS;clear HA2 Bh Bl qj vL HM HA;go_wp2_with fail;rcases hx:run l en f (.lv .sum) (k'+1) (aA (xs ++ ext)) with _ | x
    ·have:=xE.out;rw [hx] at this;cases this
    have HX:=hid hx;clear hx;have HG2:=hid (show thn (some x) _=some r by have:=xE.out;rw [HX.out] at this;exact this);clear xE
    cases x with
    | bad kb =>
     obtain rfl:j6.bad kb=r:=aaP HG2.out;have xA:=hid (H.out.low gM.out.mv);refine wp_region_held_drew (S:=fun w'=>w'.cell? ⟨w2.heap.size,0,none⟩=some (.int .u8 (tg l k').kind)∧w'.cell? ⟨w2.heap.size,1,none⟩=some (.string (aM (tx l k')))∧w'.cell? ⟨w2.heap.size,2,none⟩=some (.int .i64 (pl l en k'))∧w'.cell? ⟨w.heap.size,1,none⟩=some (.func (.func 251) #[] #[])) (by kernel_rfl) ⟨s0,s1,s2,s3⟩ (fun hHeld=>?_);refine bf 0 rfl hHeld ?_;simp only [Act.put,aaA,aaB,aaC];refine bf 1 rfl hHeld ?_;simp only [Act.put,aaA,aaB,aaC];refine bf 2 rfl hHeld ?_;simp only [Act.put,aaA,aaB,aaC];refine bf 3 rfl hHeld ?_;simp only [Act.put,aaA,aaB,aaC];refine bf 4 rfl hHeld ?_;simp only [Act.put,aaA,aaB,aaC];refine bf 5 rfl hHeld ?_;simp only [Act.put,aaA,aaB,aaC];refine bf 6 rfl hHeld ?_;simp only [Act.put,aaA,aaB,aaC];refine wpAnyH_ready (rs:=[7]) (by kernel_rfl) (by simp) ?_;refine fJ (.s (.s (.s (.s (.s (.s (.s .z))))))) (fun K hK=>?_);go_simp;refine (HC.out f (by omega) _ (k'+1) (xs ++ ext) eO _ gM.out.ps.drew (by omega) (by omega) nA.out HX.out).mono ?_;rintro e w4⟨rfl,hb4⟩;unfold aI;go_wp2_with fail;exact⟨rfl,aR.bad rfl ((Below.drew xA.out).trans hb4)⟩
    | ok kb k1 aJ =>
     have GO:=hid (aW HX.out (by omega) nA.out (Ids.nil _) (by simp))
     go_region_held3 (fun w'=>w'.cell? ⟨w2.heap.size,0,none⟩=some (.int .u8 (tg l k').kind)∧w'.cell? ⟨w2.heap.size,1,none⟩=some (.string (aM (tx l k')))∧w'.cell? ⟨w2.heap.size,2,none⟩=some (.int .i64 (pl l en k'))∧w'.cell? ⟨w.heap.size,1,none⟩=some (.func (.func 251) #[] #[]))
      (first | go_keep|(go_split_ands;refine⟨?_,?_,?_,?_⟩ <;> assumption))
      (first
       | (go_at_call 251;refine (HC.out f (by omega) _ (k'+1) (xs ++ ext) eO _ gM.out.ps.drew (by omega) (by omega) nA.out HX.out).mono ?_;rintro e w4⟨rfl,j5,yH,vM⟩;have fq:=hid vM;clear vM;have iT:=hid (gM.out.drew.trans fq.out);have vX:=fq.out.blk gM.out.ps.drew Le.out.drew (by decide) (by decide);have FE:=fq.out.blk gM.out.ps.drew Ld.out.drew (by decide) (by decide);have d0:=vX.cell 0;have d1:=vX.cell 1;have d2:=vX.cell 2;have d3:=FE.cell 1;have hl5:=vX.lt;have Xy:=FE.lt;have Ev:=hid (fq.out.map gM.out.ps.drew Jg.out);have vQ:=hid FE;clear FE;have vR:=hid vX;clear vX)
       | (go_at_call 204;refine (gB g tv l en iv aJ.length _ _ _ _ _ _ _ [av,hd kb] _ k1 (xs ++ (ext ++ j5)) yH (iT.out.ps.alloc _) (ug w4 av (hd kb)) iT.out.len (by have h1:=iT.out.len;have h2:=GO.out.few;have h3:=GO.out.le;simp only [aD] at h2;omega)).mono ?_;rintro e w5⟨rfl,Fu,p5,m5⟩;have FH:=m5.blk (vR.out.alloc _) (fq.out.ps.tag vR.out (by decide) (by decide)).1 (fq.out.ps.tag vR.out (by decide) (by decide)).2;have LQ:=m5.blk (vQ.out.alloc _) (fq.out.ps.tag vQ.out (by decide) (by decide)).1 (fq.out.ps.tag vQ.out (by decide) (by decide)).2;have e0:=FH.cell 0;have e1:=FH.cell 1;have e2:=FH.cell 2;have e3:=LQ.cell 1;have HM5:=hid ((m5.block b0 (by have:=(aaG.1 Ev.out).1;simp;omega) (fq.out.ps.jd Ev.out).1 (fq.out.ps.jd Ev.out).2).trans (gT Ev.out _));have xw:=hid LQ;clear LQ;have jX:=hid ((At.alloc iT.out _).add p5 m5 (by intro b hb;simp [Value.ownBlock] at hb;omega));clear p5 m5 FH))
     all_goals
      have g1:=GO.out.lo;have g2:=GO.out.few;have g3:=GO.out.le;have g4:=iT.out.len;have g5:=GO.out.len;simp only [aD] at g2 g5
      simp only [Job.reads] at g1
      have b2:=xw.out.cell 2;have hlb:=xw.out.lt;clear e0 e1 e2 e3 d0 d1 d2 d3 s0 s1 s2 s3 hl3 hl4 hl5 Xy
      have HST:=hid (show r=.ok [((aJ.length:Nat):Int)] k1 (aJ ++ [⟨fB .cmp (tx l k'),[],0,[av,hd kb],pl l en k'⟩]) by
       exact (aaP HG2.out).symm)
      clear g4;go_wp2_with fail;go_ret;rw [HST.out];exact aR.ok rfl jX.out
end
section
variable {g:Nat} {tv:Value} {l:List Tok} {en:Int} {iv:Value} (hF:PF l)
include hF
theorem read_sum (m:Nat)(C:∀ f,f≤m→IC g tv l en iv f (.lv .term))(w:World)(k:Nat)(xs:List NV)(nv:Value)(r:j6)(h:PS g tv l en iv w k xs nv)(hk:k≤l.length)(hn:xs.length≤k)(hw:Wf (aA xs))
  (b0 c:Nat) (hb0:w.heap[b0]? = some (.map (jF (ents .sum) 0).toArray c)) (hr:thn (run l en m (.lv .term) k (aA xs)) (fun a k1 aJ=>run l en m (.tail .sum (hd a)) k1 aJ)=some r) :
  Calls Tryz.prog 233 #[.agg #[.map (some b0),.func (.func 255) #[] #[],.bool false],.pointer (some ⟨g,0,none⟩)] w (aR g tv l en iv w xs nv r):=by
 have HC:=hid C;clear C;have H:=hid h;clear h;have HW:=hid hw;clear hw;have FF:=hid (H.out.new (aaJ _));have vL:=hid (aC.new w 219 #[.map (some b0),.func (.func 255) #[] #[],.bool false]);have H0:=hid (H.out.alloc (.cells #[.map (some b0),.func (.func 255) #[] #[],.bool false] 219));have HM:=hid (show (w.alloc (.cells #[.map (some b0),.func (.func 255) #[] #[],.bool false] 219)).heap[b0]? = _ from gT hb0 _);clear hb0;have HR:=hid hr;clear hr;have hlen:=hF.len;go_in
 go_wp2_with fail;rcases hx:run l en m (.lv .term) k (aA xs) with _ | x
 ·have:=HR.out;rw [hx] at this;cases this
 have HX:=hid hx;clear hx;have HR2:=hid (show thn (some x) (fun a k1 aJ=>run l en m (.tail .sum (hd a)) k1 aJ)=some r by have:=HR.out;rwa [HX.out] at this)
 cases x with
 | bad kb =>
  obtain rfl:j6.bad kb=r:=aaP HR2.out;refine (HC.out m (aaJ _) _ k xs nv _ H0.out hk hn HW.out HX.out).mono ?_;rintro e w1⟨rfl,hb⟩;unfold aI;go_wp2_with fail;exact⟨rfl,aR.bad rfl ((ah (Below.refl _ _) (aaK H.out.lt)).trans hb)⟩
 | ok ks k1 aJ =>
  have GO:=hid (aW HX.out hk HW.out (Ids.nil _) (by simp));refine (HC.out m (aaJ _) _ k xs nv _ H0.out hk hn HW.out HX.out).mono ?_;rintro e w1⟨rfl,ext,gW,ha⟩;have HA:=hid ha;clear ha;have HB1:=hid (HA.out.blk H0.out vL.out (by decide) (by decide));have TN:=hid (HA.out.map H0.out HM.out);have HA1:=hid (At.from_ HA.out);have HR3:=hid (show run l en m (.tail .sum (hd ks)) k1 (aA (xs ++ ext))=some r by rw [HA.out.ns];exact HR2.out);clear HR HR2 HX;have hk1:=GO.out.le;have hf1:=GO.out.few;rw [aD] at hf1
  have hl1:=HA.out.len;have nA:=hid (show Wf (aA (xs ++ ext)) by rw [HA.out.ns];exact GO.out.wf);have qP:=hid (show 0≤hd ks∧hd ks < ((xs ++ ext).length:Int) by rw [hl1];exact GO.out.hd);have hcn:(xs ++ ext).length≤k1:=by omega
  clear hl1 hf1 GO HA HM vL;obtain⟨av,EF⟩:∃ av,av=hd ks:=⟨_,rfl⟩;rw [← EF] at HR3 qP ⊢
  clear EF;have rC:=hid HA1.out.ns;go_wp2_with fail
  go_loopw [5] (fun a wr=>∃ (f k':Nat) (ext:List NV) (eO:Value) (av:Int),a=.int .i64 av∧f≤m∧k'≤l.length∧(xs ++ ext).length≤k'∧Hid (run l en f (.tail .sum av) k' (aA (xs ++ ext))=some r)∧Hid (Wf (aA (xs ++ ext)))∧Hid (0≤av∧av < ((xs ++ ext).length:Int)) ∧
    Hid (At g tv l en iv w xs nv k' (aA (xs ++ ext)) wr ext eO)∧Hid (aC wr w.heap.size 219 #[.map (some b0),.func (.func 255) #[] #[],.bool false])∧Hid (wr.heap[b0]? = some (.map (jF (ents .sum) 0).toArray c))) (fun _ wr=>nG g l.length wr)
  case atStart=>exact⟨m,k1,ext,gW,av,rfl,aaJ _,hk1,hcn,HR3,nA,qP,by rw [rC.out];exact HA1,HB1,TN⟩
  case round =>
   clear HA1 HB1 TN HR3 nA qP hcn hk1 rC;obtain⟨f,k',ext,eO,av,rfl,hfm,hk',hn',nH,nA,qP,HA,vL,HM⟩:=hrel
   obtain⟨f,rfl⟩:∃ f0,f=f0+1:=⟨f - 1,by
    rcases Nat.eq_zero_or_pos f with h | h
    ·subst h;have:=nH.out;rw [run] at this;cases this
    ·omega⟩
   have Lp:=hid (HA.out.ps.nG (n:=l.length));go_wp2_with fail;refine (h_ g tv l en iv _ k' _ eO HA.out.ps hk' hlen).mono ?_;rintro e w2⟨rfl,hb2⟩;have HA2:=hid ((HA.out.below hb2).alloc (.cells #[.int .u8 (tg l k').kind,.string (aM (tx l k')),.int .i64 (pl l en k')] 68));have FC:=(vL.out.below hb2 vL.out.lt).alloc (.cells #[.int .u8 (tg l k').kind,.string (aM (tx l k')),.int .i64 (pl l en k')] 68);have Ub:=aC.new w2 68 #[.int .u8 (tg l k').kind,.string (aM (tx l k')),.int .i64 (pl l en k')];have qj:=hid (gT ((hb2.block b0 (aaG.1 HM.out).1).trans HM.out) (.cells #[.int .u8 (tg l k').kind,.string (aM (tx l k')),.int .i64 (pl l en k')] 68));clear hb2;have hlk:=vv _ .sum b0 c qj.out (tx l k');have c0:=FC.cell 0;have hl2:w.heap.size < w2.heap.size+1:=by have:=FC.lt;simpa using this
   have Bh:=hid FC;clear FC;have Bl:=hid Ub;clear Ub;by_cases hop:fB .sum (tx l k')=0
   ·have hop':((fB .sum (tx l k'):Int) == 0)=true:=by simp [hop]
    have HST:=hid (show r=.ok [av] k' (aA (xs ++ ext)) by have:=nH.out;rw [nN hop] at this;exact (aaP this).symm);clear hop;go_wp2_with fail;go_ret;rw [HST.out];exact aR.ok rfl HA2.out
   ·have hop':((fB .sum (tx l k'):Int) == 0)=false:=by simp [hop]
    have hkl:=(qo hop).1
    have xE:=hid (show thn (run l en f (.lv .term) (k'+1) (aA (xs ++ ext))) (fun b k1 aJ=>thn (add ⟨fB .sum (tx l k'),[],0,[av,hd b],pl l en k'⟩ k1 aJ) fun c k2 fF=>run l en f (.tail .sum (hd c)) k2 fF)=some r by
     have:=nH.out;rw [qM hop] at this;exact this)
    clear hop nH;go_wp2_with fail;refine (nO g tv l en iv _ k' _ eO HA2.out.ps hk' hlen).mono ?_;rintro e w3⟨rfl,p3,m3⟩;have gM:=hid (HA2.out.step p3 m3);have FD:=HA2.out.ps.aU m3 Bh.out;have yS:=HA2.out.ps.aU m3 Bl.out;have Jg:=hid ((m3.block b0 (aaG.1 qj.out).1 (HA2.out.ps.jd qj.out).1 (HA2.out.ps.jd qj.out).2).trans qj.out);clear m3 p3 hlk c0 hl2 hop';have s0:=yS.cell 0;have s1:=yS.cell 1;have s2:=yS.cell 2;have s3:=FD.cell 1;have hl3:=yS.lt;have hl4:=FD.lt;have Ld:=hid FD;clear FD;have Le:=hid yS;clear yS;clear HA2 Bh Bl qj vL HM HA;go_wp2_with fail;rcases hx:run l en f (.lv .term) (k'+1) (aA (xs ++ ext)) with _ | x
    ·have:=xE.out;rw [hx] at this;cases this
    have HX:=hid hx;clear hx;have HG2:=hid (show thn (some x) _=some r by have:=xE.out;rw [HX.out] at this;exact this);clear xE
    cases x with
    | bad kb =>
     obtain rfl:j6.bad kb=r:=aaP HG2.out;have xA:=hid (H.out.low gM.out.mv);refine wp_region_held_drew (S:=fun w'=>w'.cell? ⟨w2.heap.size,0,none⟩=some (.int .u8 (tg l k').kind)∧w'.cell? ⟨w2.heap.size,1,none⟩=some (.string (aM (tx l k')))∧w'.cell? ⟨w2.heap.size,2,none⟩=some (.int .i64 (pl l en k'))∧w'.cell? ⟨w.heap.size,1,none⟩=some (.func (.func 255) #[] #[])) (by kernel_rfl) ⟨s0,s1,s2,s3⟩ (fun hHeld=>?_);refine bf 0 rfl hHeld ?_;simp only [Act.put,aaA,aaB,aaC];refine bf 1 rfl hHeld ?_;simp only [Act.put,aaA,aaB,aaC];refine bf 2 rfl hHeld ?_;simp only [Act.put,aaA,aaB,aaC];refine bf 3 rfl hHeld ?_;simp only [Act.put,aaA,aaB,aaC];refine bf 4 rfl hHeld ?_;simp only [Act.put,aaA,aaB,aaC];refine bf 5 rfl hHeld ?_;simp only [Act.put,aaA,aaB,aaC];refine bf 6 rfl hHeld ?_;simp only [Act.put,aaA,aaB,aaC];refine wpAnyH_ready (rs:=[7]) (by kernel_rfl) (by simp) ?_;refine fJ (.s (.s (.s (.s (.s (.s (.s .z))))))) (fun K hK=>?_);go_simp;refine (HC.out f (by omega) _ (k'+1) (xs ++ ext) eO _ gM.out.ps.drew (by omega) (by omega) nA.out HX.out).mono ?_;rintro e w4⟨rfl,hb4⟩;unfold aI;go_wp2_with fail;exact⟨rfl,aR.bad rfl ((Below.drew xA.out).trans hb4)⟩
    | ok kb k1 aJ =>
     have GO:=hid (aW HX.out (by omega) nA.out (Ids.nil _) (by simp))
     go_region_held3 (fun w'=>w'.cell? ⟨w2.heap.size,0,none⟩=some (.int .u8 (tg l k').kind)∧w'.cell? ⟨w2.heap.size,1,none⟩=some (.string (aM (tx l k')))∧w'.cell? ⟨w2.heap.size,2,none⟩=some (.int .i64 (pl l en k'))∧w'.cell? ⟨w.heap.size,1,none⟩=some (.func (.func 255) #[] #[]))
      (first | go_keep|(go_split_ands;refine⟨?_,?_,?_,?_⟩ <;> assumption))
      (first
       | (go_at_call 255;refine (HC.out f (by omega) _ (k'+1) (xs ++ ext) eO _ gM.out.ps.drew (by omega) (by omega) nA.out HX.out).mono ?_;rintro e w4⟨rfl,j5,yH,vM⟩;have fq:=hid vM;clear vM;have iT:=hid (gM.out.drew.trans fq.out);have vX:=fq.out.blk gM.out.ps.drew Le.out.drew (by decide) (by decide);have FE:=fq.out.blk gM.out.ps.drew Ld.out.drew (by decide) (by decide);have d0:=vX.cell 0;have d1:=vX.cell 1;have d2:=vX.cell 2;have d3:=FE.cell 1;have hl5:=vX.lt;have Xy:=FE.lt;have Ev:=hid (fq.out.map gM.out.ps.drew Jg.out);have vQ:=hid FE;clear FE;have vR:=hid vX;clear vX)
       | (go_at_call 204;refine (gB g tv l en iv aJ.length _ _ _ _ _ _ _ [av,hd kb] _ k1 (xs ++ (ext ++ j5)) yH (iT.out.ps.alloc _) (ug w4 av (hd kb)) iT.out.len (by have h1:=iT.out.len;have h2:=GO.out.few;have h3:=GO.out.le;simp only [aD] at h2;omega)).mono ?_;rintro e w5⟨rfl,Fu,p5,m5⟩;have FH:=m5.blk (vR.out.alloc _) (fq.out.ps.tag vR.out (by decide) (by decide)).1 (fq.out.ps.tag vR.out (by decide) (by decide)).2;have LQ:=m5.blk (vQ.out.alloc _) (fq.out.ps.tag vQ.out (by decide) (by decide)).1 (fq.out.ps.tag vQ.out (by decide) (by decide)).2;have e0:=FH.cell 0;have e1:=FH.cell 1;have e2:=FH.cell 2;have e3:=LQ.cell 1;have HM5:=hid ((m5.block b0 (by have:=(aaG.1 Ev.out).1;simp;omega) (fq.out.ps.jd Ev.out).1 (fq.out.ps.jd Ev.out).2).trans (gT Ev.out _));have xw:=hid LQ;clear LQ;have jX:=hid ((At.alloc iT.out _).add p5 m5 (by intro b hb;simp [Value.ownBlock] at hb;omega));clear p5 m5 FH))
     all_goals
      have g1:=GO.out.lo;have g2:=GO.out.few;have g3:=GO.out.le;have g4:=iT.out.len;have g5:=GO.out.len;simp only [aD] at g2 g5
      simp only [Job.reads] at g1
      have b2:=xw.out.cell 2;have hlb:=xw.out.lt;clear e0 e1 e2 e3 d0 d1 d2 d3 s0 s1 s2 s3 hl3 hl4 hl5 Xy
      have HRN:=hid (show run l en f (.tail .sum ((aJ.length:Nat):Int)) k1 (aA (xs ++ (ext ++ j5 ++ [(⟨fB .sum (tx l k'),[],0,[av,hd kb],pl l en k'⟩,.slice (some ⟨w4.heap.size,0,none⟩) 2 2)])))=some r by
       rw [jX.out.ns];exact HG2.out)
      have HWN:=hid (show Wf (aA (xs ++ (ext ++ j5 ++ [(⟨fB .sum (tx l k'),[],0,[av,hd kb],pl l en k'⟩,.slice (some ⟨w4.heap.size,0,none⟩) 2 2)]))) by
       rw [jX.out.ns];exact GO.out.wf.add (Ids.cons (by have:=qP.out;omega) (Ids.cons GO.out.hd (Ids.nil _))))
      have HAN:=hid (show At g tv l en iv w xs nv k1 (aA (xs ++ (ext ++ j5 ++ [(⟨fB .sum (tx l k'),[],0,[av,hd kb],pl l en k'⟩,.slice (some ⟨w4.heap.size,0,none⟩) 2 2)]))) w5 (ext ++ j5 ++ [(⟨fB .sum (tx l k'),[],0,[av,hd kb],pl l en k'⟩,.slice (some ⟨w4.heap.size,0,none⟩) 2 2)]) Fu by
       rw [jX.out.ns];exact jX.out)
      have hln:(xs ++ (ext ++ j5 ++ [((⟨fB .sum (tx l k'),[],0,[av,hd kb],pl l en k'⟩:Nd),Value.slice (some ⟨w4.heap.size,0,none⟩) 2 2)])).length=(xs ++ (ext ++ j5)).length+1:=by simp;omega
      have QU:=hid hln;clear hln;have Jf:=hid g4;clear g4;go_wp2_with fail
      refine⟨⟨f,k1,_,Fu,_,rfl,by omega,g3,by rw [QU.out,Jf.out];omega,HRN,HWN,hid ⟨by omega,by rw [QU.out,Jf.out];omega⟩,HAN,xw,HM5⟩,?_⟩
      rw [Lp.out,jX.out.ps.nG];omega
end
end Go.Proofs.YthepmkjggfijoaaGreatDoor
