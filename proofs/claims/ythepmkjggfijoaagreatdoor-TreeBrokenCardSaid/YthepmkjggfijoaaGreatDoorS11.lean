/-
  A part of the proof.
-/
import Derived.Test.YthepmkjggfijoaaGreatDoorSA
import Derived.Carry
import Derived.Test.YthepmkjggfijoaaGreatDoorS08
import Derived.Test.YthepmkjggfijoaaGreatDoorS09
import Derived.Test.YthepmkjggfijoaaGreatDoorS10
set_option linter.all false
set_option maxRecDepth 100000
set_option maxHeartbeats 4000000
namespace Go.Proofs.YthepmkjggfijoaaGreatDoor
open Go.RowKit Mist
attribute [local go_sem] aj aH aS aB ak
section
variable {g:Nat} {tv:Value} {l:List Tok} {en:Int} {iv:Value} (hF:PF l)
include hF
theorem Wt (m:Nat)(C:∀ f,f≤m→IC g tv l en iv f (.lv .unary))(w:World)(k:Nat)(xs:List NV)(nv:Value)(r:j6)(h:PS g tv l en iv w k xs nv)(hk:k≤l.length)(hn:xs.length≤k)(hw:Wf (aA xs))
  (A c:Nat) (hb0:w.heap[A]? = some (.map (jF (ents .term) 0).toArray c)) (hr:thn (run l en m (.lv .unary) k (aA xs)) (fun a v E=>run l en m (.tail .term (hd a)) v E)=some r) :
  Calls Tryz.prog 233 #[.agg #[.map (some A),.func (.func 256) #[] #[],.bool false],.pointer (some ⟨g,0,none⟩)] w (aR g tv l en iv w xs nv r):=by
 have HC:=O C;clear C;have H:=O h;clear h;have HW:=O hw;clear hw;have FF:=O (H.o.new (aaJ _));have Y:=O (aC.new w 219 #[.map (some A),.func (.func 256) #[] #[],.bool false]);have H0:=O (H.o.alloc (.cells #[.map (some A),.func (.func 256) #[] #[],.bool false] 219));have V:=O (show (w.alloc (.cells #[.map (some A),.func (.func 256) #[] #[],.bool false] 219)).heap[A]? = _ from gT hb0 _);clear hb0;have HR:=O hr;clear hr;have I:=hF.len;go_in
 go_wp2_with fail;rcases R:run l en m (.lv .unary) k (aA xs) with _ | x
 ·have:=HR.o;rw [R] at this;cases this
 have B:=O R;clear R;have N:=O (show thn (some x) (fun a v E=>run l en m (.tail .term (hd a)) v E)=some r by have:=HR.o;rwa [B.o] at this)
 cases x with
 | bad kb =>
  obtain rfl:j6.bad kb=r:=aaP N.o;refine (HC.o m (aaJ _) _ k xs nv _ H0.o hk hn HW.o B.o).mono ?_;rintro e w1⟨rfl,hb⟩;unfold aI;go_wp2_with fail;exact⟨rfl,aR.bad rfl ((ah (Below.refl _ _) (aaK H.o.lt)).trans hb)⟩
 | ok ks v E =>
  have u:=O (aW B.o hk HW.o (Ids.nil _) (by simp));refine (HC.o m (aaJ _) _ k xs nv _ H0.o hk hn HW.o B.o).mono ?_;rintro e w1⟨rfl,ext,gW,ha⟩;have y:=O ha;clear ha;have HB1:=O (y.o.blk H0.o Y.o (by decide) (by decide));have TN:=O (y.o.map H0.o V.o);have M:=O (At.from_ y.o);have P:=O (show run l en m (.tail .term (hd ks)) v (aA (xs ++ ext))=some r by rw [y.o.ns];exact N.o);clear HR N B;have hk1:=u.o.le;have hf1:=u.o.few;rw [aD] at hf1
  have hl1:=y.o.len;have W:=O (show Wf (aA (xs ++ ext)) by rw [y.o.ns];exact u.o.wf);have qP:=O (show 0≤hd ks∧hd ks < ((xs ++ ext).length:Int) by rw [hl1];exact u.o.hd);have hcn:(xs ++ ext).length≤v:=by omega
  clear hl1 hf1 u y V Y;obtain⟨j,EF⟩:∃ j,j=hd ks:=⟨_,rfl⟩;rw [← EF] at P qP ⊢
  clear EF;have rC:=O M.o.ns;go_wp2_with fail
  go_loopw [5] (fun a wr=>∃ (f d:Nat) (ext:List NV) (eO:Value) (j:Int),a=.int .i64 j∧f≤m∧d≤l.length∧(xs ++ ext).length≤d∧Hid (run l en f (.tail .term j) d (aA (xs ++ ext))=some r)∧Hid (Wf (aA (xs ++ ext)))∧Hid (0≤j∧j < ((xs ++ ext).length:Int)) ∧
    Hid (At g tv l en iv w xs nv d (aA (xs ++ ext)) wr ext eO)∧Hid (aC wr w.heap.size 219 #[.map (some A),.func (.func 256) #[] #[],.bool false])∧Hid (wr.heap[A]? = some (.map (jF (ents .term) 0).toArray c))) (fun _ wr=>nG g l.length wr)
  case atStart=>exact⟨m,v,ext,gW,j,rfl,aaJ _,hk1,hcn,P,W,qP,by rw [rC.o];exact M,HB1,TN⟩
  case round =>
   clear M HB1 TN P W qP hcn hk1 rC;obtain⟨f,d,ext,eO,j,rfl,hfm,hk',hn',nH,W,qP,y,Y,V⟩:=hrel
   obtain⟨f,rfl⟩:∃ f0,f=f0+1:=⟨f - 1,by
    rcases Nat.eq_zero_or_pos f with h | h
    ·subst h;have:=nH.o;rw [run] at this;cases this
    ·omega⟩
   have Lp:=O (y.o.ps.nG (n:=l.length));go_wp2_with fail;refine (h_ g tv l en iv _ d _ eO y.o.ps hk' I).mono ?_;rintro e L⟨rfl,F⟩;have q:=O ((y.o.below F).alloc (.cells #[.int .u8 (tg l d).kind,.string (aM (tx l d)),.int .i64 (pl l en d)] 68));have FC:=(Y.o.below F Y.o.lt).alloc (.cells #[.int .u8 (tg l d).kind,.string (aM (tx l d)),.int .i64 (pl l en d)] 68);have Ub:=aC.new L 68 #[.int .u8 (tg l d).kind,.string (aM (tx l d)),.int .i64 (pl l en d)];have X:=O (gT ((F.block A (aaG.1 V.o).1).trans V.o) (.cells #[.int .u8 (tg l d).kind,.string (aM (tx l d)),.int .i64 (pl l en d)] 68));clear F;have hlk:=vv _ .term A c X.o (tx l d);have c0:=FC.cell 0;have hl2:w.heap.size < L.heap.size+1:=by have:=FC.lt;simpa using this
   have Bh:=O FC;clear FC;have Bl:=O Ub;clear Ub;by_cases t:fB .term (tx l d)=0
   ·have J:((fB .term (tx l d):Int) == 0)=true:=by simp [t]
    have HST:=O (show r=.ok [j] d (aA (xs ++ ext)) by have:=nH.o;rw [nN t] at this;exact (aaP this).symm);clear t;go_wp2_with fail;go_ret;rw [HST.o];exact aR.ok rfl q.o
   ·have J:((fB .term (tx l d):Int) == 0)=false:=by simp [t]
    have hkl:=(qo t).1
    have xE:=O (show thn (run l en f (.lv .unary) (d+1) (aA (xs ++ ext))) (fun b v E=>thn (add ⟨fB .term (tx l d),[],0,[j,hd b],pl l en d⟩ v E) fun c k2 fF=>run l en f (.tail .term (hd c)) k2 fF)=some r by
     have:=nH.o;rw [qM t] at this;exact this)
    clear t nH;go_wp2_with fail;refine (nO g tv l en iv _ d _ eO q.o.ps hk' I).mono ?_;rintro e w3⟨rfl,p3,m3⟩;have Q:=O (q.o.step p3 m3);have FD:=q.o.ps.aU m3 Bh.o;have yS:=q.o.ps.aU m3 Bl.o;have Jg:=O ((m3.block A (aaG.1 X.o).1 (q.o.ps.jd X.o).1 (q.o.ps.jd X.o).2).trans X.o);clear m3 p3 hlk c0 hl2 J;have s0:=yS.cell 0;have s1:=yS.cell 1;have s2:=yS.cell 2;have s3:=FD.cell 1;have hl3:=yS.lt;have hl4:=FD.lt;have Ld:=O FD;clear FD;have Le:=O yS;clear yS;clear q Bh Bl X Y V y;go_wp2_with fail;rcases R:run l en f (.lv .unary) (d+1) (aA (xs ++ ext)) with _ | x
    ·have:=xE.o;rw [R] at this;cases this
    have B:=O R;clear R;have HG2:=O (show thn (some x) _=some r by have:=xE.o;rw [B.o] at this;exact this);clear xE
    cases x with
    | bad kb =>
     obtain rfl:j6.bad kb=r:=aaP HG2.o;have xA:=O (H.o.low Q.o.mv);refine wp_region_held_drew (S:=fun G=>G.cell? ⟨L.heap.size,0,none⟩=some (.int .u8 (tg l d).kind)∧G.cell? ⟨L.heap.size,1,none⟩=some (.string (aM (tx l d)))∧G.cell? ⟨L.heap.size,2,none⟩=some (.int .i64 (pl l en d))∧G.cell? ⟨w.heap.size,1,none⟩=some (.func (.func 256) #[] #[])) (by kernel_rfl) ⟨s0,s1,s2,s3⟩ (fun i=>?_);refine bf 0 rfl i ?_;simp only [Act.put,aaA,aaB,aaC];refine bf 1 rfl i ?_;simp only [Act.put,aaA,aaB,aaC];refine bf 2 rfl i ?_;simp only [Act.put,aaA,aaB,aaC];refine bf 3 rfl i ?_;simp only [Act.put,aaA,aaB,aaC];refine bf 4 rfl i ?_;simp only [Act.put,aaA,aaB,aaC];refine bf 5 rfl i ?_;simp only [Act.put,aaA,aaB,aaC];refine bf 6 rfl i ?_;simp only [Act.put,aaA,aaB,aaC];refine wpAnyH_ready (rs:=[7]) (by kernel_rfl) (by simp) ?_;refine fJ (.s (.s (.s (.s (.s (.s (.s .z))))))) (fun K hK=>?_);go_simp;refine (HC.o f (by omega) _ (d+1) (xs ++ ext) eO _ Q.o.ps.drew (by omega) (by omega) W.o B.o).mono ?_;rintro e U⟨rfl,hb4⟩;unfold aI;go_wp2_with fail;exact⟨rfl,aR.bad rfl ((Below.drew xA.o).trans hb4)⟩
    | ok kb v E =>
     have u:=O (aW B.o (by omega) W.o (Ids.nil _) (by simp))
     go_region_held3 (fun G=>G.cell? ⟨L.heap.size,0,none⟩=some (.int .u8 (tg l d).kind)∧G.cell? ⟨L.heap.size,1,none⟩=some (.string (aM (tx l d)))∧G.cell? ⟨L.heap.size,2,none⟩=some (.int .i64 (pl l en d))∧G.cell? ⟨w.heap.size,1,none⟩=some (.func (.func 256) #[] #[]))
      (first | go_keep|(go_split_ands;refine⟨?_,?_,?_,?_⟩ <;> assumption))
      (first
       | (go_at_call 256;refine (HC.o f (by omega) _ (d+1) (xs ++ ext) eO _ Q.o.ps.drew (by omega) (by omega) W.o B.o).mono ?_;rintro e U⟨rfl,T,yH,vM⟩;have D:=O vM;clear vM;have iT:=O (Q.o.drew.trans D.o);have Z:=D.o.blk Q.o.ps.drew Le.o.drew (by decide) (by decide);have FE:=D.o.blk Q.o.ps.drew Ld.o.drew (by decide) (by decide);have d0:=Z.cell 0;have d1:=Z.cell 1;have d2:=Z.cell 2;have d3:=FE.cell 1;have hl5:=Z.lt;have Xy:=FE.lt;have Ev:=O (D.o.map Q.o.ps.drew Jg.o);have vQ:=O FE;clear FE;have vR:=O Z;clear Z)
       | (go_at_call 204;refine (gB g tv l en iv E.length _ _ _ _ _ _ _ [j,hd kb] _ v (xs ++ (ext ++ T)) yH (iT.o.ps.alloc _) (ug U j (hd kb)) iT.o.len (by have h1:=iT.o.len;have h2:=u.o.few;have h3:=u.o.le;simp only [aD] at h2;omega)).mono ?_;rintro e w5⟨rfl,Fu,p5,m5⟩;have FH:=m5.blk (vR.o.alloc _) (D.o.ps.tag vR.o (by decide) (by decide)).1 (D.o.ps.tag vR.o (by decide) (by decide)).2;have LQ:=m5.blk (vQ.o.alloc _) (D.o.ps.tag vQ.o (by decide) (by decide)).1 (D.o.ps.tag vQ.o (by decide) (by decide)).2;have e0:=FH.cell 0;have e1:=FH.cell 1;have e2:=FH.cell 2;have e3:=LQ.cell 1;have HM5:=O ((m5.block A (by have:=(aaG.1 Ev.o).1;simp;omega) (D.o.ps.jd Ev.o).1 (D.o.ps.jd Ev.o).2).trans (gT Ev.o _));have xw:=O LQ;clear LQ;have jX:=O ((At.alloc iT.o _).add p5 m5 (by intro b hb;simp [Value.ownBlock] at hb;omega));clear p5 m5 FH))
     all_goals
      have g1:=u.o.lo;have g2:=u.o.few;have g3:=u.o.le;have g4:=iT.o.len;have g5:=u.o.len;simp only [aD] at g2 g5
      simp only [Job.reads] at g1
      have b2:=xw.o.cell 2;have hlb:=xw.o.lt;clear e0 e1 e2 e3 d0 d1 d2 d3 s0 s1 s2 s3 hl3 hl4 hl5 Xy
      have HRN:=O (show run l en f (.tail .term ((E.length:Nat):Int)) v (aA (xs ++ (ext ++ T ++ [(⟨fB .term (tx l d),[],0,[j,hd kb],pl l en d⟩,.slice (some ⟨U.heap.size,0,none⟩) 2 2)])))=some r by
       rw [jX.o.ns];exact HG2.o)
      have HWN:=O (show Wf (aA (xs ++ (ext ++ T ++ [(⟨fB .term (tx l d),[],0,[j,hd kb],pl l en d⟩,.slice (some ⟨U.heap.size,0,none⟩) 2 2)]))) by
       rw [jX.o.ns];exact u.o.wf.add (Ids.cons (by have:=qP.o;omega) (Ids.cons u.o.hd (Ids.nil _))))
      have HAN:=O (show At g tv l en iv w xs nv v (aA (xs ++ (ext ++ T ++ [(⟨fB .term (tx l d),[],0,[j,hd kb],pl l en d⟩,.slice (some ⟨U.heap.size,0,none⟩) 2 2)]))) w5 (ext ++ T ++ [(⟨fB .term (tx l d),[],0,[j,hd kb],pl l en d⟩,.slice (some ⟨U.heap.size,0,none⟩) 2 2)]) Fu by
       rw [jX.o.ns];exact jX.o)
      have hln:(xs ++ (ext ++ T ++ [((⟨fB .term (tx l d),[],0,[j,hd kb],pl l en d⟩:Nd),Value.slice (some ⟨U.heap.size,0,none⟩) 2 2)])).length=(xs ++ (ext ++ T)).length+1:=by simp;omega
      have QU:=O hln;clear hln;have Jf:=O g4;clear g4;go_wp2_with fail
      refine⟨⟨f,v,_,Fu,_,rfl,by omega,g3,by rw [QU.o,Jf.o];omega,HRN,HWN,O ⟨by omega,by rw [QU.o,Jf.o];omega⟩,HAN,xw,HM5⟩,?_⟩
      rw [Lp.o,jX.o.ps.nG];omega
end
section
variable {g:Nat} {tv:Value} {l:List Tok} {en:Int} {iv:Value} (hF:PF l)
include hF
theorem part_or (m:Nat)(C:∀ f,f≤m→IC g tv l en iv f (.lv .and)):IC g tv l en iv (m+1) (.lv .or):=by
 intro w k xs nv r h B E j b;have H:=O h;clear h;have y:=O j;clear j;have t:=O C;clear C;have x:=O (show thn (run l en m (.lv .and) k (aA xs)) (fun a n c=>run l en m (.tail .or (hd a)) n c)=some r by rw [run] at b <;> first | exact b | decide|(intro h;cases h));clear b;have D:=@run_makeMap Tryz.prog;have G:(Instr.mapUpdate 217 (.map (some w.heap.size)) (.string ⟨#[111,114]⟩) (.int .u8 18)).run Tryz.prog (w.alloc (.map #[] 0))=.ok () (w.alloc (.map (jF [([111,114],.int .u8 18)] 0).toArray 1)):=fM 217 5 Tryz.underlying217 w [] [111,114] (.int .u8 18) (by decide +kernel);have u:=O (heap_alloc_new w (.map (jF [([111,114],.int .u8 18)] 0).toArray 1));have v:=O (H.o.alloc (.map (jF [([111,114],.int .u8 18)] 0).toArray 1));unfold t_ V6;go_enter Tryz.func222,Tryz.ntmps222
 go_wp2_with fail;refine (read_or hF m t.o _ k xs nv r v.o B E y.o w.heap.size 1 u.o x.o).mono ?_;intro e w1 i
 cases r with
 | bad kb =>
  obtain⟨rfl,A⟩:=i;unfold aI;go_wp2_with fail;exact⟨rfl,aR.bad rfl ((ah (Below.refl _ _) (aaK H.o.lt)).trans A)⟩
 | ok ks n c =>
  obtain⟨rfl,ext,F,d⟩:=i;have q:=O (At.from_ d);clear d;go_wp2_with fail;go_ret;exact aR.ok rfl q.o
theorem part_and (m:Nat)(C:∀ f,f≤m→IC g tv l en iv f (.lv .not)):IC g tv l en iv (m+1) (.lv .and):=by
 intro w k xs nv r h B E j b;have H:=O h;clear h;have y:=O j;clear j;have t:=O C;clear C;have x:=O (show thn (run l en m (.lv .not) k (aA xs)) (fun a n c=>run l en m (.tail .and (hd a)) n c)=some r by rw [run] at b <;> first | exact b | decide|(intro h;cases h));clear b;have D:=@run_makeMap Tryz.prog;have G:(Instr.mapUpdate 217 (.map (some w.heap.size)) (.string ⟨#[97,110,100]⟩) (.int .u8 17)).run Tryz.prog (w.alloc (.map #[] 0))=.ok () (w.alloc (.map (jF [([97,110,100],.int .u8 17)] 0).toArray 1)):=fM 217 5 Tryz.underlying217 w [] [97,110,100] (.int .u8 17) (by decide +kernel);have u:=O (heap_alloc_new w (.map (jF [([97,110,100],.int .u8 17)] 0).toArray 1));have v:=O (H.o.alloc (.map (jF [([97,110,100],.int .u8 17)] 0).toArray 1));unfold t_ V6;go_enter Tryz.func232,Tryz.ntmps232
 go_wp2_with fail;refine (read_and hF m t.o _ k xs nv r v.o B E y.o w.heap.size 1 u.o x.o).mono ?_;intro e w1 i
 cases r with
 | bad kb =>
  obtain⟨rfl,A⟩:=i;unfold aI;go_wp2_with fail;exact⟨rfl,aR.bad rfl ((ah (Below.refl _ _) (aaK H.o.lt)).trans A)⟩
 | ok ks n c =>
  obtain⟨rfl,ext,F,d⟩:=i;have q:=O (At.from_ d);clear d;go_wp2_with fail;go_ret;exact aR.ok rfl q.o
theorem part_cmp (m:Nat)(C:∀ f,f≤m→IC g tv l en iv f (.lv .sum)):IC g tv l en iv (m+1) (.lv .cmp):=by
 intro w k xs nv r h B E j b;have H:=O h;clear h;have y:=O j;clear j;have t:=O C;clear C;have x:=O (show thn (run l en m (.lv .sum) k (aA xs)) (fun a n c=>run l en m (.tail .cmp (hd a)) n c)=some r by rw [run] at b <;> first | exact b | decide|(intro h;cases h));clear b;have D:=@run_makeMap Tryz.prog;have G:(Instr.mapUpdate 217 (.map (some w.heap.size)) (.string ⟨#[61,61]⟩) (.int .u8 11)).run Tryz.prog (w.alloc (.map #[] 0))=.ok () (w.alloc (.map (jF [([61,61],.int .u8 11)] 0).toArray 1)):=fM 217 5 Tryz.underlying217 w [] [61,61] (.int .u8 11) (by decide +kernel);have I:(Instr.mapUpdate 217 (.map (some w.heap.size)) (.string ⟨#[33,61]⟩) (.int .u8 12)).run Tryz.prog (w.alloc (.map (jF [([61,61],.int .u8 11)] 0).toArray 1))=.ok () (w.alloc (.map (jF [([61,61],.int .u8 11),([33,61],.int .u8 12)] 0).toArray 2)):=fM 217 5 Tryz.underlying217 w [([61,61],.int .u8 11)] [33,61] (.int .u8 12) (by decide +kernel);have J:(Instr.mapUpdate 217 (.map (some w.heap.size)) (.string ⟨#[60]⟩) (.int .u8 13)).run Tryz.prog (w.alloc (.map (jF [([61,61],.int .u8 11),([33,61],.int .u8 12)] 0).toArray 2))=.ok () (w.alloc (.map (jF [([61,61],.int .u8 11),([33,61],.int .u8 12),([60],.int .u8 13)] 0).toArray 3)):=fM 217 5 Tryz.underlying217 w [([61,61],.int .u8 11),([33,61],.int .u8 12)] [60] (.int .u8 13) (by decide +kernel);have K:(Instr.mapUpdate 217 (.map (some w.heap.size)) (.string ⟨#[60,61]⟩) (.int .u8 14)).run Tryz.prog (w.alloc (.map (jF [([61,61],.int .u8 11),([33,61],.int .u8 12),([60],.int .u8 13)] 0).toArray 3))=.ok () (w.alloc (.map (jF [([61,61],.int .u8 11),([33,61],.int .u8 12),([60],.int .u8 13),([60,61],.int .u8 14)] 0).toArray 4)):=fM 217 5 Tryz.underlying217 w [([61,61],.int .u8 11),([33,61],.int .u8 12),([60],.int .u8 13)] [60,61] (.int .u8 14) (by decide +kernel);have L:(Instr.mapUpdate 217 (.map (some w.heap.size)) (.string ⟨#[62]⟩) (.int .u8 15)).run Tryz.prog (w.alloc (.map (jF [([61,61],.int .u8 11),([33,61],.int .u8 12),([60],.int .u8 13),([60,61],.int .u8 14)] 0).toArray 4))=.ok () (w.alloc (.map (jF [([61,61],.int .u8 11),([33,61],.int .u8 12),([60],.int .u8 13),([60,61],.int .u8 14),([62],.int .u8 15)] 0).toArray 5)):=fM 217 5 Tryz.underlying217 w [([61,61],.int .u8 11),([33,61],.int .u8 12),([60],.int .u8 13),([60,61],.int .u8 14)] [62] (.int .u8 15) (by decide +kernel);have M:(Instr.mapUpdate 217 (.map (some w.heap.size)) (.string ⟨#[62,61]⟩) (.int .u8 16)).run Tryz.prog (w.alloc (.map (jF [([61,61],.int .u8 11),([33,61],.int .u8 12),([60],.int .u8 13),([60,61],.int .u8 14),([62],.int .u8 15)] 0).toArray 5))=.ok () (w.alloc (.map (jF [([61,61],.int .u8 11),([33,61],.int .u8 12),([60],.int .u8 13),([60,61],.int .u8 14),([62],.int .u8 15),([62,61],.int .u8 16)] 0).toArray 6)):=fM 217 5 Tryz.underlying217 w [([61,61],.int .u8 11),([33,61],.int .u8 12),([60],.int .u8 13),([60,61],.int .u8 14),([62],.int .u8 15)] [62,61] (.int .u8 16) (by decide +kernel);have u:=O (heap_alloc_new w (.map (jF [([61,61],.int .u8 11),([33,61],.int .u8 12),([60],.int .u8 13),([60,61],.int .u8 14),([62],.int .u8 15),([62,61],.int .u8 16)] 0).toArray 6));have v:=O (H.o.alloc (.map (jF [([61,61],.int .u8 11),([33,61],.int .u8 12),([60],.int .u8 13),([60,61],.int .u8 14),([62],.int .u8 15),([62,61],.int .u8 16)] 0).toArray 6));unfold t_ V6;go_enter Tryz.func245,Tryz.ntmps245
 go_wp2_with fail;refine (read_cmp hF m t.o _ k xs nv r v.o B E y.o w.heap.size 6 u.o x.o).mono ?_;intro e w1 i
 cases r with
 | bad kb =>
  obtain⟨rfl,A⟩:=i;unfold aI;go_wp2_with fail;exact⟨rfl,aR.bad rfl ((ah (Below.refl _ _) (aaK H.o.lt)).trans A)⟩
 | ok ks n c =>
  obtain⟨rfl,ext,F,d⟩:=i;have q:=O (At.from_ d);clear d;go_wp2_with fail;go_ret;exact aR.ok rfl q.o
theorem part_sum (m:Nat)(C:∀ f,f≤m→IC g tv l en iv f (.lv .term)):IC g tv l en iv (m+1) (.lv .sum):=by
 intro w k xs nv r h B E j b;have H:=O h;clear h;have y:=O j;clear j;have t:=O C;clear C;have x:=O (show thn (run l en m (.lv .term) k (aA xs)) (fun a n c=>run l en m (.tail .sum (hd a)) n c)=some r by rw [run] at b <;> first | exact b | decide|(intro h;cases h));clear b;have D:=@run_makeMap Tryz.prog;have G:(Instr.mapUpdate 217 (.map (some w.heap.size)) (.string ⟨#[43]⟩) (.int .u8 6)).run Tryz.prog (w.alloc (.map #[] 0))=.ok () (w.alloc (.map (jF [([43],.int .u8 6)] 0).toArray 1)):=fM 217 5 Tryz.underlying217 w [] [43] (.int .u8 6) (by decide +kernel);have I:(Instr.mapUpdate 217 (.map (some w.heap.size)) (.string ⟨#[45]⟩) (.int .u8 7)).run Tryz.prog (w.alloc (.map (jF [([43],.int .u8 6)] 0).toArray 1))=.ok () (w.alloc (.map (jF [([43],.int .u8 6),([45],.int .u8 7)] 0).toArray 2)):=fM 217 5 Tryz.underlying217 w [([43],.int .u8 6)] [45] (.int .u8 7) (by decide +kernel);have u:=O (heap_alloc_new w (.map (jF [([43],.int .u8 6),([45],.int .u8 7)] 0).toArray 2));have v:=O (H.o.alloc (.map (jF [([43],.int .u8 6),([45],.int .u8 7)] 0).toArray 2));unfold t_ V6;go_enter Tryz.func251,Tryz.ntmps251
 go_wp2_with fail;refine (read_sum hF m t.o _ k xs nv r v.o B E y.o w.heap.size 2 u.o x.o).mono ?_;intro e w1 i
 cases r with
 | bad kb =>
  obtain⟨rfl,A⟩:=i;unfold aI;go_wp2_with fail;exact⟨rfl,aR.bad rfl ((ah (Below.refl _ _) (aaK H.o.lt)).trans A)⟩
 | ok ks n c =>
  obtain⟨rfl,ext,F,d⟩:=i;have q:=O (At.from_ d);clear d;go_wp2_with fail;go_ret;exact aR.ok rfl q.o
theorem Wm (m:Nat)(C:∀ f,f≤m→IC g tv l en iv f (.lv .unary)):IC g tv l en iv (m+1) (.lv .term):=by
 intro w k xs nv r h B E j b;have H:=O h;clear h;have y:=O j;clear j;have t:=O C;clear C;have x:=O (show thn (run l en m (.lv .unary) k (aA xs)) (fun a n c=>run l en m (.tail .term (hd a)) n c)=some r by rw [run] at b <;> first | exact b | decide|(intro h;cases h));clear b;have D:=@run_makeMap Tryz.prog;have G:(Instr.mapUpdate 217 (.map (some w.heap.size)) (.string ⟨#[42]⟩) (.int .u8 8)).run Tryz.prog (w.alloc (.map #[] 0))=.ok () (w.alloc (.map (jF [([42],.int .u8 8)] 0).toArray 1)):=fM 217 5 Tryz.underlying217 w [] [42] (.int .u8 8) (by decide +kernel);have I:(Instr.mapUpdate 217 (.map (some w.heap.size)) (.string ⟨#[47]⟩) (.int .u8 9)).run Tryz.prog (w.alloc (.map (jF [([42],.int .u8 8)] 0).toArray 1))=.ok () (w.alloc (.map (jF [([42],.int .u8 8),([47],.int .u8 9)] 0).toArray 2)):=fM 217 5 Tryz.underlying217 w [([42],.int .u8 8)] [47] (.int .u8 9) (by decide +kernel);have J:(Instr.mapUpdate 217 (.map (some w.heap.size)) (.string ⟨#[37]⟩) (.int .u8 10)).run Tryz.prog (w.alloc (.map (jF [([42],.int .u8 8),([47],.int .u8 9)] 0).toArray 2))=.ok () (w.alloc (.map (jF [([42],.int .u8 8),([47],.int .u8 9),([37],.int .u8 10)] 0).toArray 3)):=fM 217 5 Tryz.underlying217 w [([42],.int .u8 8),([47],.int .u8 9)] [37] (.int .u8 10) (by decide +kernel);have u:=O (heap_alloc_new w (.map (jF [([42],.int .u8 8),([47],.int .u8 9),([37],.int .u8 10)] 0).toArray 3));have v:=O (H.o.alloc (.map (jF [([42],.int .u8 8),([47],.int .u8 9),([37],.int .u8 10)] 0).toArray 3));unfold t_ V6;go_enter Tryz.func255,Tryz.ntmps255
 go_wp2_with fail;refine (Wt hF m t.o _ k xs nv r v.o B E y.o w.heap.size 3 u.o x.o).mono ?_;intro e w1 i
 cases r with
 | bad kb =>
  obtain⟨rfl,A⟩:=i;unfold aI;go_wp2_with fail;exact⟨rfl,aR.bad rfl ((ah (Below.refl _ _) (aaK H.o.lt)).trans A)⟩
 | ok ks n c =>
  obtain⟨rfl,ext,F,d⟩:=i;have q:=O (At.from_ d);clear d;go_wp2_with fail;go_ret;exact aR.ok rfl q.o
end
section
variable {g:Nat} {tv:Value} {l:List Tok} {en:Int} {iv:Value} (hF:PF l)
include hF
theorem VZ (m:Nat)(C:∀ f,f≤m→IC g tv l en iv f El.expr.job):LC g tv l en iv (m+1) .expr:=by
 intro w k xs nv r h hk hn hw hr;have HC:=O C;clear C;have H:=O h;clear h;have HW:=O hw;clear hw;have HR:=O (show thn (run l en m El.expr.job k (aA xs)) (fun a y G=>run l en m (.eu .expr [hd a]) y G)=some r by rw [run] at hr;exact hr);clear hr;have hlen:=hF.len;obtain⟨i0,hi0,hz0,hz1,hz2⟩:=info_parts gN;unfold elFn;go_enter Tryz.func205,Tryz.ntmps205
 go_wp2_with fail;rcases d:run l en m El.expr.job k (aA xs) with _ | x
 ·have:=HR.o;rw [d] at this;cases this
 have E:=O d;clear d;have I:=O (show thn (some x) (fun a y G=>run l en m (.eu .expr [hd a]) y G)=some r by have:=HR.o;rwa [E.o] at this);clear HR
 cases x with
 | bad kb =>
  obtain rfl:j6.bad kb=r:=aaP I.o;refine (HC.o m (aaJ _) _ k xs nv _ H.o hk hn HW.o E.o).mono ?_;rintro e w1⟨rfl,hb⟩;unfold aI;go_wp2_with fail;exact⟨rfl,tQ.bad rfl hb⟩
 | ok ks y G =>
  have A:=O (aW E.o hk HW.o (Ids.nil _) (by simp [El.job]));refine (HC.o m (aaJ _) _ k xs nv _ H.o hk hn HW.o E.o).mono ?_;rintro e w1⟨rfl,ext,gW,ha⟩;have j:=O ha;clear ha;have J:=O (show run l en m (.eu .expr [hd ks]) y (aA (xs ++ ext))=some r by rw [j.o.ns];exact I.o);clear I E;have Z:=A.o.le;have V:=A.o.few;have W:=A.o.lo;simp only [Job.reads,El.job] at W
  rw [aD] at V
  have hl1:=j.o.len;have Q:=O (show Wf (aA (xs ++ ext)) by rw [j.o.ns];exact A.o.wf);have qP:=O (show Ids [hd ks] (xs ++ ext).length by rw [hl1];exact Ids.cons A.o.hd (Ids.nil _));have U:(xs ++ ext).length≤y:=by omega
  have hsz:=j.o.mv.size;have B:=O (show (w1.alloc (.cells #[.int .i64 (hd ks)] 3)).ownsRow w.heap.size 3 1 (.slice (some ⟨w1.heap.size,0,none⟩) 1 1) 1 (intCells [hd ks]) from World.ownsRow_lit w1 _ 1 hsz (by simp [maxLen]) rfl);have R:=O (show ∀ x ∈ ext,x.2.ownBlock=none∨x.2.ownBlock ≠ (Value.slice (some ⟨w1.heap.size,0,none⟩) 1 1).ownBlock from fun x d=>j.o.ps.Mx d (aaJ _));have F:=O (j.o.alloc (.cells #[.int .i64 (hd ks)] 3));have Y:1≤y:=by omega
  clear hl1 V A j W;obtain⟨av,EF⟩:∃ av,av=hd ks:=⟨_,rfl⟩;rw [← EF] at J qP B F ⊢
  clear EF;have rC:=O F.o.ns;go_wp2_with fail
  go_loopw [5] (fun v wr=>∃ (f t:Nat) (ext:List NV) (eO:Value) (c:List Int) (q:Nat),f≤m∧t≤l.length∧(xs ++ ext).length≤t∧q≤t∧Hid (c.length=q)∧0 < q∧Hid (run l en f (.eu .expr c) t (aA (xs ++ ext))=some r)∧Hid (Wf (aA (xs ++ ext)))∧Hid (Ids c (xs ++ ext).length) ∧
    Hid (At g tv l en iv w xs nv t (aA (xs ++ ext)) wr ext eO)∧wr.ownsRow w.heap.size 3 1 v q (intCells c)∧Hid (∀ x ∈ ext,x.2.ownBlock=none∨x.2.ownBlock ≠ v.ownBlock)) (fun _ wr=>nG g l.length wr)
  case atStart=>exact⟨m,y,ext,gW,[av],1,aaJ _,Z,U,Y,O rfl,by omega,J,Q,qP,by rw [rC.o];exact F,B.o,R⟩
  case round =>
   clear F B R J Q qP U Z rC Y;obtain⟨f,t,ext,eO,c,q,hfm,X,hn',hq',HQ,hq0,nH,Q,qP,j,D,R⟩:=hrel
   obtain⟨f,rfl⟩:∃ f0,f=f0+1:=⟨f - 1,by
    rcases Nat.eq_zero_or_pos f with h | h
    ·subst h;have:=nH.o;rw [run] at this;cases this
    ·omega⟩
   have Lp:=O (j.o.ps.nG (n:=l.length));obtain⟨A5,c5,rfl⟩:=dh D;have B:=O D;clear D;by_cases P:tx l t=[44]
   case neg =>
    have HST:=O (show r=.ok c t (aA (xs ++ ext)) by have:=nH.o;rw [run,if_neg P] at this;exact (aaP this).symm);go_wp2_with fail;refine (kN g tv l en iv hF [44] (.inr (by decide +kernel)) _ t _ eO j.o.ps X P).mono ?_;rintro e w2⟨rfl,K⟩;have i:=O (j.o.below K);have Ew:=O (own_below B.o K);clear K;go_wp2_with fail;go_ret;rw [HST.o];exact tQ.ok rfl (by rw [HQ.o];exact Ew.o) i.o R.o
   case pos =>
    have hkl:=aP P (by simp);have xE:=O (show thn (run l en f El.expr.job (t+1) (aA (xs ++ ext))) (fun a y G=>run l en f (.eu .expr (c ++ [hd a])) y G)=some r by have:=nH.o;rw [run,if_pos P] at this;exact this);go_wp2_with fail;refine (jg g tv l en iv hF [44] (.inr (by decide +kernel)) _ t _ eO j.o.ps X P).mono ?_;rintro e w2⟨rfl,p2,m2⟩;have i:=O (j.o.step p2 m2);have Ew:=O (j.o.ps.iI m2 B.o (by decide) (by decide));clear p2 m2;clear P nH;go_wp2_with fail;rcases d:run l en f El.expr.job (t+1) (aA (xs ++ ext)) with _ | x
    ·have:=xE.o;rw [d] at this;cases this
    have E:=O d;clear d;have S:=O (show thn (some x) (fun a y G=>run l en f (.eu .expr (c ++ [hd a])) y G)=some r by have:=xE.o;rw [E.o] at this;exact this);clear xE
    cases x with
    | bad kb =>
     obtain rfl:j6.bad kb=r:=aaP S.o;have xA:=O (H.o.low i.o.mv);refine (HC.o f (by omega) _ (t+1) (xs ++ ext) eO _ i.o.ps (by omega) (by omega) Q.o E.o).mono ?_;rintro e w4⟨rfl,hb4⟩;unfold aI;go_wp2_with fail;exact⟨rfl,tQ.bad rfl (xA.o.trans hb4)⟩
    | ok kb y G =>
     have A:=O (aW E.o (by omega) Q.o (Ids.nil _) (by simp [El.job]));refine (HC.o f (by omega) _ (t+1) (xs ++ ext) eO _ i.o.ps (by omega) (by omega) Q.o E.o).mono ?_;rintro e w4⟨rfl,j5,yH,vM⟩;have fq:=O vM;clear vM;have T:=O (i.o.ps.iI fq.o.mv Ew.o (by decide) (by decide));have N:=O (i.o.trans fq.o);have hsz4:=N.o.mv.size
     have E8:=O (show ∀ x ∈ ext ++ j5,x.2.ownBlock=none∨x.2.ownBlock ≠ (Value.slice A5 q c5).ownBlock from fun x d=>by
      rcases List.mem_append.1 d with d | d
      ·exact R.o x d
      ·exact Cg fq.o.fresh d (fun b hb=>(Ew.o.lt b hb).2))
     have g1:=A.o.lo;have g2:=A.o.few;have g3:=A.o.le;have g4:=N.o.len;have g5:=A.o.len;simp only [aD] at g2 g5
     simp only [Job.reads,El.job] at g1
     have hqm:q+1≤100000:=by omega
     have Jf:=O g4;clear g4
     go_wp2_with (at_builtin
                  refine wpList_append_lies _ rfl (.tmp 12) (.tmp 16) 24 rfl w.heap.size 3 i0 _ 1 8 Tryz.underlying24 hi0 hz0 hz1 hz2 rfl (by decide) _ q (intCells c) rfl
                    (T.o.alloc _) ⟨w4.heap.size,0,none⟩ 1 1 [.int .i64 (hd kb)] rfl rfl (iP _ _ _) (by intro u hu;simp at hu;subst hu;rfl) (by omega) (by simp only [maxLen];omega) (by omega) (by simp;omega) (w4.heap.size+1) (by simp) ?_
                  intro gg cap w5 M L Jz hgl)
     have jX:=O ((N.o.alloc (.cells #[.int .i64 (hd kb)] 3)).grown H.o T.o (by decide) L E8.o);have HAT:=O Jz;clear Jz;have HGR:=O L;clear L
     refine⟨⟨f,y,ext ++ j5,yH,c ++ [hd kb],q+1,by omega,g3,by rw [Jf.o];omega,by omega,O (by rw [aaO,HQ.o];rfl),by omega,O (by rw [N.o.ns];exact S.o),O (by rw [N.o.ns];exact A.o.wf),O (by rw [Jf.o];exact (qP.o.mono g5).app (Ids.cons A.o.hd (Ids.nil _))),
      O (by rw [N.o.ns];exact jX.o),by rw [eT];exact M,O (fun x d=>?_)⟩,?_⟩
     ·show x.2.ownBlock=none∨x.2.ownBlock ≠ some gg
      rcases HAT.o with e | e
      ·rw [← e];exact E8.o x d
      ·rcases h9:x.2.ownBlock with _ | b
       ·exact .inl rfl
       ·right
        intro e2;injection e2 with e2
        have:=(World.ownsRow.lt (N.o.ps.kids x (List.mem_append_right _ d)) b h9).2
        omega
     ·rw [Lp.o,jX.o.ps.nG];omega
end
end Go.Proofs.YthepmkjggfijoaaGreatDoor
