/-
  A part of the proof.
-/
import Derived.Test.YthepmkjggfijoaaGreatDoorSA
import Derived.Carry
import Derived.Test.YthepmkjggfijoaaGreatDoorS08
import Derived.Test.YthepmkjggfijoaaGreatDoorS09
import Derived.Test.YthepmkjggfijoaaGreatDoorS10
set_option linter.all false
set_option maxRecDepth 100000
set_option maxHeartbeats 4000000
open Go.Lib (hid)
namespace Go.Proofs.YthepmkjggfijoaaGreatDoor
open Go.RowKit Mist
attribute [local go_sem] aj aH aS aB ak
section
variable {g:Nat} {tv:Value} {l:List Tok} {en:Int} {iv:Value} (hF:PF l)
include hF
theorem Wt (m:Nat)(C:∀ f,f≤m→IC g tv l en iv f (.lv .unary))(w:World)(k:Nat)(xs:List NV)(nv:Value)(r:j6)(h:PS g tv l en iv w k xs nv)(hk:k≤l.length)(hn:xs.length≤k)(hw:Wf (aA xs))
  (b0 c:Nat) (hb0:w.heap[b0]? = some (.map (jF (ents .term) 0).toArray c)) (hr:thn (run l en m (.lv .unary) k (aA xs)) (fun a k1 aJ=>run l en m (.tail .term (hd a)) k1 aJ)=some r) :
  Calls Tryz.prog 233 #[.agg #[.map (some b0),.func (.func 256) #[] #[],.bool false],.pointer (some ⟨g,0,none⟩)] w (aR g tv l en iv w xs nv r):=by
 have HC:=hid C;clear C;have H:=hid h;clear h;have HW:=hid hw;clear hw;have FF:=hid (H.out.new (aaJ _));have vL:=hid (aC.new w 219 #[.map (some b0),.func (.func 256) #[] #[],.bool false]);have H0:=hid (H.out.alloc (.cells #[.map (some b0),.func (.func 256) #[] #[],.bool false] 219));have HM:=hid (show (w.alloc (.cells #[.map (some b0),.func (.func 256) #[] #[],.bool false] 219)).heap[b0]? = _ from gT hb0 _);clear hb0;have HR:=hid hr;clear hr;have hlen:=hF.len;go_in
 go_wp2_with fail;rcases hx:run l en m (.lv .unary) k (aA xs) with _ | x
 ·have:=HR.out;rw [hx] at this;cases this
 have HX:=hid hx;clear hx;have HR2:=hid (show thn (some x) (fun a k1 aJ=>run l en m (.tail .term (hd a)) k1 aJ)=some r by have:=HR.out;rwa [HX.out] at this)
 cases x with
 | bad kb =>
  obtain rfl:j6.bad kb=r:=aaP HR2.out;refine (HC.out m (aaJ _) _ k xs nv _ H0.out hk hn HW.out HX.out).mono ?_;rintro e w1⟨rfl,hb⟩;unfold aI;go_wp2_with fail;exact⟨rfl,aR.bad rfl ((ah (Below.refl _ _) (aaK H.out.lt)).trans hb)⟩
 | ok ks k1 aJ =>
  have GO:=hid (aW HX.out hk HW.out (Ids.nil _) (by simp));refine (HC.out m (aaJ _) _ k xs nv _ H0.out hk hn HW.out HX.out).mono ?_;rintro e w1⟨rfl,ext,gW,ha⟩;have HA:=hid ha;clear ha;have HB1:=hid (HA.out.blk H0.out vL.out (by decide) (by decide));have TN:=hid (HA.out.map H0.out HM.out);have HA1:=hid (At.from_ HA.out);have HR3:=hid (show run l en m (.tail .term (hd ks)) k1 (aA (xs ++ ext))=some r by rw [HA.out.ns];exact HR2.out);clear HR HR2 HX;have hk1:=GO.out.le;have hf1:=GO.out.few;rw [aD] at hf1
  have hl1:=HA.out.len;have nA:=hid (show Wf (aA (xs ++ ext)) by rw [HA.out.ns];exact GO.out.wf);have qP:=hid (show 0≤hd ks∧hd ks < ((xs ++ ext).length:Int) by rw [hl1];exact GO.out.hd);have hcn:(xs ++ ext).length≤k1:=by omega
  clear hl1 hf1 GO HA HM vL;obtain⟨av,EF⟩:∃ av,av=hd ks:=⟨_,rfl⟩;rw [← EF] at HR3 qP ⊢
  clear EF;have rC:=hid HA1.out.ns;go_wp2_with fail
  go_loopw [5] (fun a wr=>∃ (f k':Nat) (ext:List NV) (eO:Value) (av:Int),a=.int .i64 av∧f≤m∧k'≤l.length∧(xs ++ ext).length≤k'∧Hid (run l en f (.tail .term av) k' (aA (xs ++ ext))=some r)∧Hid (Wf (aA (xs ++ ext)))∧Hid (0≤av∧av < ((xs ++ ext).length:Int)) ∧
    Hid (At g tv l en iv w xs nv k' (aA (xs ++ ext)) wr ext eO)∧Hid (aC wr w.heap.size 219 #[.map (some b0),.func (.func 256) #[] #[],.bool false])∧Hid (wr.heap[b0]? = some (.map (jF (ents .term) 0).toArray c))) (fun _ wr=>nG g l.length wr)
  case atStart=>exact⟨m,k1,ext,gW,av,rfl,aaJ _,hk1,hcn,HR3,nA,qP,by rw [rC.out];exact HA1,HB1,TN⟩
  case round =>
   clear HA1 HB1 TN HR3 nA qP hcn hk1 rC;obtain⟨f,k',ext,eO,av,rfl,hfm,hk',hn',nH,nA,qP,HA,vL,HM⟩:=hrel
   obtain⟨f,rfl⟩:∃ f0,f=f0+1:=⟨f - 1,by
    rcases Nat.eq_zero_or_pos f with h | h
    ·subst h;have:=nH.out;rw [run] at this;cases this
    ·omega⟩
   have Lp:=hid (HA.out.ps.nG (n:=l.length));go_wp2_with fail;refine (h_ g tv l en iv _ k' _ eO HA.out.ps hk' hlen).mono ?_;rintro e w2⟨rfl,hb2⟩;have HA2:=hid ((HA.out.below hb2).alloc (.cells #[.int .u8 (tg l k').kind,.string (aM (tx l k')),.int .i64 (pl l en k')] 68));have FC:=(vL.out.below hb2 vL.out.lt).alloc (.cells #[.int .u8 (tg l k').kind,.string (aM (tx l k')),.int .i64 (pl l en k')] 68);have Ub:=aC.new w2 68 #[.int .u8 (tg l k').kind,.string (aM (tx l k')),.int .i64 (pl l en k')];have qj:=hid (gT ((hb2.block b0 (aaG.1 HM.out).1).trans HM.out) (.cells #[.int .u8 (tg l k').kind,.string (aM (tx l k')),.int .i64 (pl l en k')] 68));clear hb2;have hlk:=vv _ .term b0 c qj.out (tx l k');have c0:=FC.cell 0;have hl2:w.heap.size < w2.heap.size+1:=by have:=FC.lt;simpa using this
   have Bh:=hid FC;clear FC;have Bl:=hid Ub;clear Ub;by_cases hop:fB .term (tx l k')=0
   ·have hop':((fB .term (tx l k'):Int) == 0)=true:=by simp [hop]
    have HST:=hid (show r=.ok [av] k' (aA (xs ++ ext)) by have:=nH.out;rw [nN hop] at this;exact (aaP this).symm);clear hop;go_wp2_with fail;go_ret;rw [HST.out];exact aR.ok rfl HA2.out
   ·have hop':((fB .term (tx l k'):Int) == 0)=false:=by simp [hop]
    have hkl:=(qo hop).1
    have xE:=hid (show thn (run l en f (.lv .unary) (k'+1) (aA (xs ++ ext))) (fun b k1 aJ=>thn (add ⟨fB .term (tx l k'),[],0,[av,hd b],pl l en k'⟩ k1 aJ) fun c k2 fF=>run l en f (.tail .term (hd c)) k2 fF)=some r by
     have:=nH.out;rw [qM hop] at this;exact this)
    clear hop nH;go_wp2_with fail;refine (nO g tv l en iv _ k' _ eO HA2.out.ps hk' hlen).mono ?_;rintro e w3⟨rfl,p3,m3⟩;have gM:=hid (HA2.out.step p3 m3);have FD:=HA2.out.ps.aU m3 Bh.out;have yS:=HA2.out.ps.aU m3 Bl.out;have Jg:=hid ((m3.block b0 (aaG.1 qj.out).1 (HA2.out.ps.jd qj.out).1 (HA2.out.ps.jd qj.out).2).trans qj.out);clear m3 p3 hlk c0 hl2 hop';have s0:=yS.cell 0;have s1:=yS.cell 1;have s2:=yS.cell 2;have s3:=FD.cell 1;have hl3:=yS.lt;have hl4:=FD.lt;have Ld:=hid FD;clear FD;have Le:=hid yS;clear yS;clear HA2 Bh Bl qj vL HM HA;go_wp2_with fail;rcases hx:run l en f (.lv .unary) (k'+1) (aA (xs ++ ext)) with _ | x
    ·have:=xE.out;rw [hx] at this;cases this
    have HX:=hid hx;clear hx;have HG2:=hid (show thn (some x) _=some r by have:=xE.out;rw [HX.out] at this;exact this);clear xE
    cases x with
    | bad kb =>
     obtain rfl:j6.bad kb=r:=aaP HG2.out;have xA:=hid (H.out.low gM.out.mv);refine wp_region_held_drew (S:=fun w'=>w'.cell? ⟨w2.heap.size,0,none⟩=some (.int .u8 (tg l k').kind)∧w'.cell? ⟨w2.heap.size,1,none⟩=some (.string (aM (tx l k')))∧w'.cell? ⟨w2.heap.size,2,none⟩=some (.int .i64 (pl l en k'))∧w'.cell? ⟨w.heap.size,1,none⟩=some (.func (.func 256) #[] #[])) (by kernel_rfl) ⟨s0,s1,s2,s3⟩ (fun hHeld=>?_);refine bf 0 rfl hHeld ?_;simp only [Act.put,aaA,aaB,aaC];refine bf 1 rfl hHeld ?_;simp only [Act.put,aaA,aaB,aaC];refine bf 2 rfl hHeld ?_;simp only [Act.put,aaA,aaB,aaC];refine bf 3 rfl hHeld ?_;simp only [Act.put,aaA,aaB,aaC];refine bf 4 rfl hHeld ?_;simp only [Act.put,aaA,aaB,aaC];refine bf 5 rfl hHeld ?_;simp only [Act.put,aaA,aaB,aaC];refine bf 6 rfl hHeld ?_;simp only [Act.put,aaA,aaB,aaC];refine wpAnyH_ready (rs:=[7]) (by kernel_rfl) (by simp) ?_;refine fJ (.s (.s (.s (.s (.s (.s (.s .z))))))) (fun K hK=>?_);go_simp;refine (HC.out f (by omega) _ (k'+1) (xs ++ ext) eO _ gM.out.ps.drew (by omega) (by omega) nA.out HX.out).mono ?_;rintro e w4⟨rfl,hb4⟩;unfold aI;go_wp2_with fail;exact⟨rfl,aR.bad rfl ((Below.drew xA.out).trans hb4)⟩
    | ok kb k1 aJ =>
     have GO:=hid (aW HX.out (by omega) nA.out (Ids.nil _) (by simp))
     go_region_held3 (fun w'=>w'.cell? ⟨w2.heap.size,0,none⟩=some (.int .u8 (tg l k').kind)∧w'.cell? ⟨w2.heap.size,1,none⟩=some (.string (aM (tx l k')))∧w'.cell? ⟨w2.heap.size,2,none⟩=some (.int .i64 (pl l en k'))∧w'.cell? ⟨w.heap.size,1,none⟩=some (.func (.func 256) #[] #[]))
      (first | go_keep|(go_split_ands;refine⟨?_,?_,?_,?_⟩ <;> assumption))
      (first
       | (go_at_call 256;refine (HC.out f (by omega) _ (k'+1) (xs ++ ext) eO _ gM.out.ps.drew (by omega) (by omega) nA.out HX.out).mono ?_;rintro e w4⟨rfl,j5,yH,vM⟩;have fq:=hid vM;clear vM;have iT:=hid (gM.out.drew.trans fq.out);have vX:=fq.out.blk gM.out.ps.drew Le.out.drew (by decide) (by decide);have FE:=fq.out.blk gM.out.ps.drew Ld.out.drew (by decide) (by decide);have d0:=vX.cell 0;have d1:=vX.cell 1;have d2:=vX.cell 2;have d3:=FE.cell 1;have hl5:=vX.lt;have Xy:=FE.lt;have Ev:=hid (fq.out.map gM.out.ps.drew Jg.out);have vQ:=hid FE;clear FE;have vR:=hid vX;clear vX)
       | (go_at_call 204;refine (gB g tv l en iv aJ.length _ _ _ _ _ _ _ [av,hd kb] _ k1 (xs ++ (ext ++ j5)) yH (iT.out.ps.alloc _) (ug w4 av (hd kb)) iT.out.len (by have h1:=iT.out.len;have h2:=GO.out.few;have h3:=GO.out.le;simp only [aD] at h2;omega)).mono ?_;rintro e w5⟨rfl,Fu,p5,m5⟩;have FH:=m5.blk (vR.out.alloc _) (fq.out.ps.tag vR.out (by decide) (by decide)).1 (fq.out.ps.tag vR.out (by decide) (by decide)).2;have LQ:=m5.blk (vQ.out.alloc _) (fq.out.ps.tag vQ.out (by decide) (by decide)).1 (fq.out.ps.tag vQ.out (by decide) (by decide)).2;have e0:=FH.cell 0;have e1:=FH.cell 1;have e2:=FH.cell 2;have e3:=LQ.cell 1;have HM5:=hid ((m5.block b0 (by have:=(aaG.1 Ev.out).1;simp;omega) (fq.out.ps.jd Ev.out).1 (fq.out.ps.jd Ev.out).2).trans (gT Ev.out _));have xw:=hid LQ;clear LQ;have jX:=hid ((At.alloc iT.out _).add p5 m5 (by intro b hb;simp [Value.ownBlock] at hb;omega));clear p5 m5 FH))
     all_goals
      have g1:=GO.out.lo;have g2:=GO.out.few;have g3:=GO.out.le;have g4:=iT.out.len;have g5:=GO.out.len;simp only [aD] at g2 g5
      simp only [Job.reads] at g1
      have b2:=xw.out.cell 2;have hlb:=xw.out.lt;clear e0 e1 e2 e3 d0 d1 d2 d3 s0 s1 s2 s3 hl3 hl4 hl5 Xy
      have HRN:=hid (show run l en f (.tail .term ((aJ.length:Nat):Int)) k1 (aA (xs ++ (ext ++ j5 ++ [(⟨fB .term (tx l k'),[],0,[av,hd kb],pl l en k'⟩,.slice (some ⟨w4.heap.size,0,none⟩) 2 2)])))=some r by
       rw [jX.out.ns];exact HG2.out)
      have HWN:=hid (show Wf (aA (xs ++ (ext ++ j5 ++ [(⟨fB .term (tx l k'),[],0,[av,hd kb],pl l en k'⟩,.slice (some ⟨w4.heap.size,0,none⟩) 2 2)]))) by
       rw [jX.out.ns];exact GO.out.wf.add (Ids.cons (by have:=qP.out;omega) (Ids.cons GO.out.hd (Ids.nil _))))
      have HAN:=hid (show At g tv l en iv w xs nv k1 (aA (xs ++ (ext ++ j5 ++ [(⟨fB .term (tx l k'),[],0,[av,hd kb],pl l en k'⟩,.slice (some ⟨w4.heap.size,0,none⟩) 2 2)]))) w5 (ext ++ j5 ++ [(⟨fB .term (tx l k'),[],0,[av,hd kb],pl l en k'⟩,.slice (some ⟨w4.heap.size,0,none⟩) 2 2)]) Fu by
       rw [jX.out.ns];exact jX.out)
      have hln:(xs ++ (ext ++ j5 ++ [((⟨fB .term (tx l k'),[],0,[av,hd kb],pl l en k'⟩:Nd),Value.slice (some ⟨w4.heap.size,0,none⟩) 2 2)])).length=(xs ++ (ext ++ j5)).length+1:=by simp;omega
      have QU:=hid hln;clear hln;have Jf:=hid g4;clear g4;go_wp2_with fail
      refine⟨⟨f,k1,_,Fu,_,rfl,by omega,g3,by rw [QU.out,Jf.out];omega,HRN,HWN,hid ⟨by omega,by rw [QU.out,Jf.out];omega⟩,HAN,xw,HM5⟩,?_⟩
      rw [Lp.out,jX.out.ps.nG];omega
end
section
variable {g:Nat} {tv:Value} {l:List Tok} {en:Int} {iv:Value} (hF:PF l)
include hF
theorem part_or (m:Nat)(C:∀ f,f≤m→IC g tv l en iv f (.lv .and)):IC g tv l en iv (m+1) (.lv .or):=by
 intro w k xs nv r h hk hn hw hr;have H:=hid h;clear h;have HW:=hid hw;clear hw;have HC:=hid C;clear C;have HR:=hid (show thn (run l en m (.lv .and) k (aA xs)) (fun a k1 aJ=>run l en m (.tail .or (hd a)) k1 aJ)=some r by rw [run] at hr <;> first | exact hr | decide|(intro h;cases h));clear hr;have hmm:=@run_makeMap Tryz.prog;have i0:(Instr.mapUpdate 217 (.map (some w.heap.size)) (.string ⟨#[111,114]⟩) (.int .u8 18)).run Tryz.prog (w.alloc (.map #[] 0))=.ok () (w.alloc (.map (jF [([111,114],.int .u8 18)] 0).toArray 1)):=fM 217 5 Tryz.underlying217 w [] [111,114] (.int .u8 18) (by decide +kernel);have HM:=hid (heap_alloc_new w (.map (jF [([111,114],.int .u8 18)] 0).toArray 1));have HP:=hid (H.out.alloc (.map (jF [([111,114],.int .u8 18)] 0).toArray 1));unfold t_ V6;go_enter Tryz.func222,Tryz.ntmps222
 go_wp2_with fail;refine (read_or hF m HC.out _ k xs nv r HP.out hk hn HW.out w.heap.size 1 HM.out HR.out).mono ?_;intro e w1 hp
 cases r with
 | bad kb =>
  obtain⟨rfl,hb⟩:=hp;unfold aI;go_wp2_with fail;exact⟨rfl,aR.bad rfl ((ah (Below.refl _ _) (aaK H.out.lt)).trans hb)⟩
 | ok ks k1 aJ =>
  obtain⟨rfl,ext,gW,ha⟩:=hp;have HA:=hid (At.from_ ha);clear ha;go_wp2_with fail;go_ret;exact aR.ok rfl HA.out
theorem part_and (m:Nat)(C:∀ f,f≤m→IC g tv l en iv f (.lv .not)):IC g tv l en iv (m+1) (.lv .and):=by
 intro w k xs nv r h hk hn hw hr;have H:=hid h;clear h;have HW:=hid hw;clear hw;have HC:=hid C;clear C;have HR:=hid (show thn (run l en m (.lv .not) k (aA xs)) (fun a k1 aJ=>run l en m (.tail .and (hd a)) k1 aJ)=some r by rw [run] at hr <;> first | exact hr | decide|(intro h;cases h));clear hr;have hmm:=@run_makeMap Tryz.prog;have i0:(Instr.mapUpdate 217 (.map (some w.heap.size)) (.string ⟨#[97,110,100]⟩) (.int .u8 17)).run Tryz.prog (w.alloc (.map #[] 0))=.ok () (w.alloc (.map (jF [([97,110,100],.int .u8 17)] 0).toArray 1)):=fM 217 5 Tryz.underlying217 w [] [97,110,100] (.int .u8 17) (by decide +kernel);have HM:=hid (heap_alloc_new w (.map (jF [([97,110,100],.int .u8 17)] 0).toArray 1));have HP:=hid (H.out.alloc (.map (jF [([97,110,100],.int .u8 17)] 0).toArray 1));unfold t_ V6;go_enter Tryz.func232,Tryz.ntmps232
 go_wp2_with fail;refine (read_and hF m HC.out _ k xs nv r HP.out hk hn HW.out w.heap.size 1 HM.out HR.out).mono ?_;intro e w1 hp
 cases r with
 | bad kb =>
  obtain⟨rfl,hb⟩:=hp;unfold aI;go_wp2_with fail;exact⟨rfl,aR.bad rfl ((ah (Below.refl _ _) (aaK H.out.lt)).trans hb)⟩
 | ok ks k1 aJ =>
  obtain⟨rfl,ext,gW,ha⟩:=hp;have HA:=hid (At.from_ ha);clear ha;go_wp2_with fail;go_ret;exact aR.ok rfl HA.out
theorem part_cmp (m:Nat)(C:∀ f,f≤m→IC g tv l en iv f (.lv .sum)):IC g tv l en iv (m+1) (.lv .cmp):=by
 intro w k xs nv r h hk hn hw hr;have H:=hid h;clear h;have HW:=hid hw;clear hw;have HC:=hid C;clear C;have HR:=hid (show thn (run l en m (.lv .sum) k (aA xs)) (fun a k1 aJ=>run l en m (.tail .cmp (hd a)) k1 aJ)=some r by rw [run] at hr <;> first | exact hr | decide|(intro h;cases h));clear hr;have hmm:=@run_makeMap Tryz.prog;have i0:(Instr.mapUpdate 217 (.map (some w.heap.size)) (.string ⟨#[61,61]⟩) (.int .u8 11)).run Tryz.prog (w.alloc (.map #[] 0))=.ok () (w.alloc (.map (jF [([61,61],.int .u8 11)] 0).toArray 1)):=fM 217 5 Tryz.underlying217 w [] [61,61] (.int .u8 11) (by decide +kernel);have i1:(Instr.mapUpdate 217 (.map (some w.heap.size)) (.string ⟨#[33,61]⟩) (.int .u8 12)).run Tryz.prog (w.alloc (.map (jF [([61,61],.int .u8 11)] 0).toArray 1))=.ok () (w.alloc (.map (jF [([61,61],.int .u8 11),([33,61],.int .u8 12)] 0).toArray 2)):=fM 217 5 Tryz.underlying217 w [([61,61],.int .u8 11)] [33,61] (.int .u8 12) (by decide +kernel);have i2:(Instr.mapUpdate 217 (.map (some w.heap.size)) (.string ⟨#[60]⟩) (.int .u8 13)).run Tryz.prog (w.alloc (.map (jF [([61,61],.int .u8 11),([33,61],.int .u8 12)] 0).toArray 2))=.ok () (w.alloc (.map (jF [([61,61],.int .u8 11),([33,61],.int .u8 12),([60],.int .u8 13)] 0).toArray 3)):=fM 217 5 Tryz.underlying217 w [([61,61],.int .u8 11),([33,61],.int .u8 12)] [60] (.int .u8 13) (by decide +kernel);have i3:(Instr.mapUpdate 217 (.map (some w.heap.size)) (.string ⟨#[60,61]⟩) (.int .u8 14)).run Tryz.prog (w.alloc (.map (jF [([61,61],.int .u8 11),([33,61],.int .u8 12),([60],.int .u8 13)] 0).toArray 3))=.ok () (w.alloc (.map (jF [([61,61],.int .u8 11),([33,61],.int .u8 12),([60],.int .u8 13),([60,61],.int .u8 14)] 0).toArray 4)):=fM 217 5 Tryz.underlying217 w [([61,61],.int .u8 11),([33,61],.int .u8 12),([60],.int .u8 13)] [60,61] (.int .u8 14) (by decide +kernel);have i4:(Instr.mapUpdate 217 (.map (some w.heap.size)) (.string ⟨#[62]⟩) (.int .u8 15)).run Tryz.prog (w.alloc (.map (jF [([61,61],.int .u8 11),([33,61],.int .u8 12),([60],.int .u8 13),([60,61],.int .u8 14)] 0).toArray 4))=.ok () (w.alloc (.map (jF [([61,61],.int .u8 11),([33,61],.int .u8 12),([60],.int .u8 13),([60,61],.int .u8 14),([62],.int .u8 15)] 0).toArray 5)):=fM 217 5 Tryz.underlying217 w [([61,61],.int .u8 11),([33,61],.int .u8 12),([60],.int .u8 13),([60,61],.int .u8 14)] [62] (.int .u8 15) (by decide +kernel);have i5:(Instr.mapUpdate 217 (.map (some w.heap.size)) (.string ⟨#[62,61]⟩) (.int .u8 16)).run Tryz.prog (w.alloc (.map (jF [([61,61],.int .u8 11),([33,61],.int .u8 12),([60],.int .u8 13),([60,61],.int .u8 14),([62],.int .u8 15)] 0).toArray 5))=.ok () (w.alloc (.map (jF [([61,61],.int .u8 11),([33,61],.int .u8 12),([60],.int .u8 13),([60,61],.int .u8 14),([62],.int .u8 15),([62,61],.int .u8 16)] 0).toArray 6)):=fM 217 5 Tryz.underlying217 w [([61,61],.int .u8 11),([33,61],.int .u8 12),([60],.int .u8 13),([60,61],.int .u8 14),([62],.int .u8 15)] [62,61] (.int .u8 16) (by decide +kernel);have HM:=hid (heap_alloc_new w (.map (jF [([61,61],.int .u8 11),([33,61],.int .u8 12),([60],.int .u8 13),([60,61],.int .u8 14),([62],.int .u8 15),([62,61],.int .u8 16)] 0).toArray 6));have HP:=hid (H.out.alloc (.map (jF [([61,61],.int .u8 11),([33,61],.int .u8 12),([60],.int .u8 13),([60,61],.int .u8 14),([62],.int .u8 15),([62,61],.int .u8 16)] 0).toArray 6));unfold t_ V6;go_enter Tryz.func245,Tryz.ntmps245
 go_wp2_with fail;refine (read_cmp hF m HC.out _ k xs nv r HP.out hk hn HW.out w.heap.size 6 HM.out HR.out).mono ?_;intro e w1 hp
 cases r with
 | bad kb =>
  obtain⟨rfl,hb⟩:=hp;unfold aI;go_wp2_with fail;exact⟨rfl,aR.bad rfl ((ah (Below.refl _ _) (aaK H.out.lt)).trans hb)⟩
 | ok ks k1 aJ =>
  obtain⟨rfl,ext,gW,ha⟩:=hp;have HA:=hid (At.from_ ha);clear ha;go_wp2_with fail;go_ret;exact aR.ok rfl HA.out
theorem part_sum (m:Nat)(C:∀ f,f≤m→IC g tv l en iv f (.lv .term)):IC g tv l en iv (m+1) (.lv .sum):=by
 intro w k xs nv r h hk hn hw hr;have H:=hid h;clear h;have HW:=hid hw;clear hw;have HC:=hid C;clear C;have HR:=hid (show thn (run l en m (.lv .term) k (aA xs)) (fun a k1 aJ=>run l en m (.tail .sum (hd a)) k1 aJ)=some r by rw [run] at hr <;> first | exact hr | decide|(intro h;cases h));clear hr;have hmm:=@run_makeMap Tryz.prog;have i0:(Instr.mapUpdate 217 (.map (some w.heap.size)) (.string ⟨#[43]⟩) (.int .u8 6)).run Tryz.prog (w.alloc (.map #[] 0))=.ok () (w.alloc (.map (jF [([43],.int .u8 6)] 0).toArray 1)):=fM 217 5 Tryz.underlying217 w [] [43] (.int .u8 6) (by decide +kernel);have i1:(Instr.mapUpdate 217 (.map (some w.heap.size)) (.string ⟨#[45]⟩) (.int .u8 7)).run Tryz.prog (w.alloc (.map (jF [([43],.int .u8 6)] 0).toArray 1))=.ok () (w.alloc (.map (jF [([43],.int .u8 6),([45],.int .u8 7)] 0).toArray 2)):=fM 217 5 Tryz.underlying217 w [([43],.int .u8 6)] [45] (.int .u8 7) (by decide +kernel);have HM:=hid (heap_alloc_new w (.map (jF [([43],.int .u8 6),([45],.int .u8 7)] 0).toArray 2));have HP:=hid (H.out.alloc (.map (jF [([43],.int .u8 6),([45],.int .u8 7)] 0).toArray 2));unfold t_ V6;go_enter Tryz.func251,Tryz.ntmps251
 go_wp2_with fail;refine (read_sum hF m HC.out _ k xs nv r HP.out hk hn HW.out w.heap.size 2 HM.out HR.out).mono ?_;intro e w1 hp
 cases r with
 | bad kb =>
  obtain⟨rfl,hb⟩:=hp;unfold aI;go_wp2_with fail;exact⟨rfl,aR.bad rfl ((ah (Below.refl _ _) (aaK H.out.lt)).trans hb)⟩
 | ok ks k1 aJ =>
  obtain⟨rfl,ext,gW,ha⟩:=hp;have HA:=hid (At.from_ ha);clear ha;go_wp2_with fail;go_ret;exact aR.ok rfl HA.out
theorem Wm (m:Nat)(C:∀ f,f≤m→IC g tv l en iv f (.lv .unary)):IC g tv l en iv (m+1) (.lv .term):=by
 intro w k xs nv r h hk hn hw hr;have H:=hid h;clear h;have HW:=hid hw;clear hw;have HC:=hid C;clear C;have HR:=hid (show thn (run l en m (.lv .unary) k (aA xs)) (fun a k1 aJ=>run l en m (.tail .term (hd a)) k1 aJ)=some r by rw [run] at hr <;> first | exact hr | decide|(intro h;cases h));clear hr;have hmm:=@run_makeMap Tryz.prog;have i0:(Instr.mapUpdate 217 (.map (some w.heap.size)) (.string ⟨#[42]⟩) (.int .u8 8)).run Tryz.prog (w.alloc (.map #[] 0))=.ok () (w.alloc (.map (jF [([42],.int .u8 8)] 0).toArray 1)):=fM 217 5 Tryz.underlying217 w [] [42] (.int .u8 8) (by decide +kernel);have i1:(Instr.mapUpdate 217 (.map (some w.heap.size)) (.string ⟨#[47]⟩) (.int .u8 9)).run Tryz.prog (w.alloc (.map (jF [([42],.int .u8 8)] 0).toArray 1))=.ok () (w.alloc (.map (jF [([42],.int .u8 8),([47],.int .u8 9)] 0).toArray 2)):=fM 217 5 Tryz.underlying217 w [([42],.int .u8 8)] [47] (.int .u8 9) (by decide +kernel);have i2:(Instr.mapUpdate 217 (.map (some w.heap.size)) (.string ⟨#[37]⟩) (.int .u8 10)).run Tryz.prog (w.alloc (.map (jF [([42],.int .u8 8),([47],.int .u8 9)] 0).toArray 2))=.ok () (w.alloc (.map (jF [([42],.int .u8 8),([47],.int .u8 9),([37],.int .u8 10)] 0).toArray 3)):=fM 217 5 Tryz.underlying217 w [([42],.int .u8 8),([47],.int .u8 9)] [37] (.int .u8 10) (by decide +kernel);have HM:=hid (heap_alloc_new w (.map (jF [([42],.int .u8 8),([47],.int .u8 9),([37],.int .u8 10)] 0).toArray 3));have HP:=hid (H.out.alloc (.map (jF [([42],.int .u8 8),([47],.int .u8 9),([37],.int .u8 10)] 0).toArray 3));unfold t_ V6;go_enter Tryz.func255,Tryz.ntmps255
 go_wp2_with fail;refine (Wt hF m HC.out _ k xs nv r HP.out hk hn HW.out w.heap.size 3 HM.out HR.out).mono ?_;intro e w1 hp
 cases r with
 | bad kb =>
  obtain⟨rfl,hb⟩:=hp;unfold aI;go_wp2_with fail;exact⟨rfl,aR.bad rfl ((ah (Below.refl _ _) (aaK H.out.lt)).trans hb)⟩
 | ok ks k1 aJ =>
  obtain⟨rfl,ext,gW,ha⟩:=hp;have HA:=hid (At.from_ ha);clear ha;go_wp2_with fail;go_ret;exact aR.ok rfl HA.out
end
section
variable {g:Nat} {tv:Value} {l:List Tok} {en:Int} {iv:Value} (hF:PF l)
include hF
theorem VZ (m:Nat)(C:∀ f,f≤m→IC g tv l en iv f El.expr.job):LC g tv l en iv (m+1) .expr:=by
 intro w k xs nv r h hk hn hw hr;have HC:=hid C;clear C;have H:=hid h;clear h;have HW:=hid hw;clear hw;have HR:=hid (show thn (run l en m El.expr.job k (aA xs)) (fun a k1 aJ=>run l en m (.eu .expr [hd a]) k1 aJ)=some r by rw [run] at hr;exact hr);clear hr;have hlen:=hF.len;obtain⟨i0,hi0,hz0,hz1,hz2⟩:=info_parts gN;unfold elFn;go_enter Tryz.func205,Tryz.ntmps205
 go_wp2_with fail;rcases hx:run l en m El.expr.job k (aA xs) with _ | x
 ·have:=HR.out;rw [hx] at this;cases this
 have HX:=hid hx;clear hx;have HR2:=hid (show thn (some x) (fun a k1 aJ=>run l en m (.eu .expr [hd a]) k1 aJ)=some r by have:=HR.out;rwa [HX.out] at this);clear HR
 cases x with
 | bad kb =>
  obtain rfl:j6.bad kb=r:=aaP HR2.out;refine (HC.out m (aaJ _) _ k xs nv _ H.out hk hn HW.out HX.out).mono ?_;rintro e w1⟨rfl,hb⟩;unfold aI;go_wp2_with fail;exact⟨rfl,tQ.bad rfl hb⟩
 | ok ks k1 aJ =>
  have GO:=hid (aW HX.out hk HW.out (Ids.nil _) (by simp [El.job]));refine (HC.out m (aaJ _) _ k xs nv _ H.out hk hn HW.out HX.out).mono ?_;rintro e w1⟨rfl,ext,gW,ha⟩;have HA:=hid ha;clear ha;have HR3:=hid (show run l en m (.eu .expr [hd ks]) k1 (aA (xs ++ ext))=some r by rw [HA.out.ns];exact HR2.out);clear HR2 HX;have hk1:=GO.out.le;have hf1:=GO.out.few;have hg1:=GO.out.lo;simp only [Job.reads,El.job] at hg1
  rw [aD] at hf1
  have hl1:=HA.out.len;have nA:=hid (show Wf (aA (xs ++ ext)) by rw [HA.out.ns];exact GO.out.wf);have qP:=hid (show Ids [hd ks] (xs ++ ext).length by rw [hl1];exact Ids.cons GO.out.hd (Ids.nil _));have hcn:(xs ++ ext).length≤k1:=by omega
  have hsz:=HA.out.mv.size;have HOW:=hid (show (w1.alloc (.cells #[.int .i64 (hd ks)] 3)).ownsRow w.heap.size 3 1 (.slice (some ⟨w1.heap.size,0,none⟩) 1 1) 1 (intCells [hd ks]) from World.ownsRow_lit w1 _ 1 hsz (by simp [maxLen]) rfl);have F7:=hid (show ∀ x ∈ ext,x.2.ownBlock=none∨x.2.ownBlock ≠ (Value.slice (some ⟨w1.heap.size,0,none⟩) 1 1).ownBlock from fun x hx=>HA.out.ps.Mx hx (aaJ _));have HA1:=hid (HA.out.alloc (.cells #[.int .i64 (hd ks)] 3));have hk0:1≤k1:=by omega
  clear hl1 hf1 GO HA hg1;obtain⟨av,EF⟩:∃ av,av=hd ks:=⟨_,rfl⟩;rw [← EF] at HR3 qP HOW HA1 ⊢
  clear EF;have rC:=hid HA1.out.ns;go_wp2_with fail
  go_loopw [5] (fun v wr=>∃ (f k':Nat) (ext:List NV) (eO:Value) (acc:List Int) (q:Nat),f≤m∧k'≤l.length∧(xs ++ ext).length≤k'∧q≤k'∧Hid (acc.length=q)∧0 < q∧Hid (run l en f (.eu .expr acc) k' (aA (xs ++ ext))=some r)∧Hid (Wf (aA (xs ++ ext)))∧Hid (Ids acc (xs ++ ext).length) ∧
    Hid (At g tv l en iv w xs nv k' (aA (xs ++ ext)) wr ext eO)∧wr.ownsRow w.heap.size 3 1 v q (intCells acc)∧Hid (∀ x ∈ ext,x.2.ownBlock=none∨x.2.ownBlock ≠ v.ownBlock)) (fun _ wr=>nG g l.length wr)
  case atStart=>exact⟨m,k1,ext,gW,[av],1,aaJ _,hk1,hcn,hk0,hid rfl,by omega,HR3,nA,qP,by rw [rC.out];exact HA1,HOW.out,F7⟩
  case round =>
   clear HA1 HOW F7 HR3 nA qP hcn hk1 rC hk0;obtain⟨f,k',ext,eO,acc,q,hfm,hk',hn',hq',HQ,hq0,nH,nA,qP,HA,hown,F7⟩:=hrel
   obtain⟨f,rfl⟩:∃ f0,f=f0+1:=⟨f - 1,by
    rcases Nat.eq_zero_or_pos f with h | h
    ·subst h;have:=nH.out;rw [run] at this;cases this
    ·omega⟩
   have Lp:=hid (HA.out.ps.nG (n:=l.length));obtain⟨A5,c5,rfl⟩:=dh hown;have HOW:=hid hown;clear hown;by_cases hc:tx l k'=[44]
   case neg =>
    have HST:=hid (show r=.ok acc k' (aA (xs ++ ext)) by have:=nH.out;rw [run,if_neg hc] at this;exact (aaP this).symm);go_wp2_with fail;refine (kN g tv l en iv hF [44] (.inr (by decide +kernel)) _ k' _ eO HA.out.ps hk' hc).mono ?_;rintro e w2⟨rfl,hb2⟩;have HA2:=hid (HA.out.below hb2);have Ew:=hid (own_below HOW.out hb2);clear hb2;go_wp2_with fail;go_ret;rw [HST.out];exact tQ.ok rfl (by rw [HQ.out];exact Ew.out) HA2.out F7.out
   case pos =>
    have hkl:=aP hc (by simp);have xE:=hid (show thn (run l en f El.expr.job (k'+1) (aA (xs ++ ext))) (fun a k1 aJ=>run l en f (.eu .expr (acc ++ [hd a])) k1 aJ)=some r by have:=nH.out;rw [run,if_pos hc] at this;exact this);go_wp2_with fail;refine (jg g tv l en iv hF [44] (.inr (by decide +kernel)) _ k' _ eO HA.out.ps hk' hc).mono ?_;rintro e w2⟨rfl,p2,m2⟩;have HA2:=hid (HA.out.step p2 m2);have Ew:=hid (HA.out.ps.iI m2 HOW.out (by decide) (by decide));clear p2 m2;clear hc nH;go_wp2_with fail;rcases hx:run l en f El.expr.job (k'+1) (aA (xs ++ ext)) with _ | x
    ·have:=xE.out;rw [hx] at this;cases this
    have HX:=hid hx;clear hx;have HG2:=hid (show thn (some x) (fun a k1 aJ=>run l en f (.eu .expr (acc ++ [hd a])) k1 aJ)=some r by have:=xE.out;rw [HX.out] at this;exact this);clear xE
    cases x with
    | bad kb =>
     obtain rfl:j6.bad kb=r:=aaP HG2.out;have xA:=hid (H.out.low HA2.out.mv);refine (HC.out f (by omega) _ (k'+1) (xs ++ ext) eO _ HA2.out.ps (by omega) (by omega) nA.out HX.out).mono ?_;rintro e w4⟨rfl,hb4⟩;unfold aI;go_wp2_with fail;exact⟨rfl,tQ.bad rfl (xA.out.trans hb4)⟩
    | ok kb k1 aJ =>
     have GO:=hid (aW HX.out (by omega) nA.out (Ids.nil _) (by simp [El.job]));refine (HC.out f (by omega) _ (k'+1) (xs ++ ext) eO _ HA2.out.ps (by omega) (by omega) nA.out HX.out).mono ?_;rintro e w4⟨rfl,j5,yH,vM⟩;have fq:=hid vM;clear vM;have HO4:=hid (HA2.out.ps.iI fq.out.mv Ew.out (by decide) (by decide));have iT:=hid (HA2.out.trans fq.out);have hsz4:=iT.out.mv.size
     have E8:=hid (show ∀ x ∈ ext ++ j5,x.2.ownBlock=none∨x.2.ownBlock ≠ (Value.slice A5 q c5).ownBlock from fun x hx=>by
      rcases List.mem_append.1 hx with hx | hx
      ·exact F7.out x hx
      ·exact Cg fq.out.fresh hx (fun b hb=>(Ew.out.lt b hb).2))
     have g1:=GO.out.lo;have g2:=GO.out.few;have g3:=GO.out.le;have g4:=iT.out.len;have g5:=GO.out.len;simp only [aD] at g2 g5
     simp only [Job.reads,El.job] at g1
     have hqm:q+1≤100000:=by omega
     have Jf:=hid g4;clear g4
     go_wp2_with (at_builtin
                  refine wpList_append_lies _ rfl (.tmp 12) (.tmp 16) 24 rfl w.heap.size 3 i0 _ 1 8 Tryz.underlying24 hi0 hz0 hz1 hz2 rfl (by decide) _ q (intCells acc) rfl
                    (HO4.out.alloc _) ⟨w4.heap.size,0,none⟩ 1 1 [.int .i64 (hd kb)] rfl rfl (iP _ _ _) (by intro u hu;simp at hu;subst hu;rfl) (by omega) (by simp only [maxLen];omega) (by omega) (by simp;omega) (w4.heap.size+1) (by simp) ?_
                  intro gg cap w5 hown2 hg5 Jz hgl)
     have jX:=hid ((iT.out.alloc (.cells #[.int .i64 (hd kb)] 3)).grown H.out HO4.out (by decide) hg5 E8.out);have HAT:=hid Jz;clear Jz;have HGR:=hid hg5;clear hg5
     refine⟨⟨f,k1,ext ++ j5,yH,acc ++ [hd kb],q+1,by omega,g3,by rw [Jf.out];omega,by omega,hid (by rw [aaO,HQ.out];rfl),by omega,hid (by rw [iT.out.ns];exact HG2.out),hid (by rw [iT.out.ns];exact GO.out.wf),hid (by rw [Jf.out];exact (qP.out.mono g5).app (Ids.cons GO.out.hd (Ids.nil _))),
      hid (by rw [iT.out.ns];exact jX.out),by rw [eT];exact hown2,hid (fun x hx=>?_)⟩,?_⟩
     ·show x.2.ownBlock=none∨x.2.ownBlock ≠ some gg
      rcases HAT.out with e | e
      ·rw [← e];exact E8.out x hx
      ·rcases h9:x.2.ownBlock with _ | b
       ·exact .inl rfl
       ·right
        intro e2;injection e2 with e2
        have:=(World.ownsRow.lt (iT.out.ps.kids x (List.mem_append_right _ hx)) b h9).2
        omega
     ·rw [Lp.out,jX.out.ps.nG];omega
end
end Go.Proofs.YthepmkjggfijoaaGreatDoor
