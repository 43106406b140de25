/-
  A part of the proof.
-/
import Derived.Test.YtalghggmkojblaaGreatDoorS09
set_option linter.all false
set_option maxRecDepth 100000
set_option maxHeartbeats 4000000
namespace Go.Proofs.YtalghggmkojblaaGreatDoor
section
open Go.RowKit Mist
section
variable {g:Nat} {tv:Value} {l:List Tok} {en:Int} {iv:Value} {w w1 w2:World} {k:Nat} {xs:List NV} {nv:Value}
theorem DY.ok {a:World}{ext:List NV}{gY v:Value}{ks:List Int}{ns:List Nd}{e:Ending}(c:e=.returned v)(f:a.ownsRow w.heap.size 3 1 v ks.length (intCells ks))(b:At g tv l en iv w xs nv k ns a ext gY)(d:∀ x ∈ ext,x.2.ownBlock=none∨x.2.ownBlock ≠ v.ownBlock) :
  DY g tv l en iv w xs nv (.ok ks k ns) e a:=⟨v,ext,gY,c,f,b,d⟩
theorem PS.mM (h:PS g tv l en iv w k xs nv){r1:Option Nat}(m:Mv g nv.ownBlock w r1 w1){base e s n:Nat}{v:Value}{b:List Value}(a:w.ownsRow base e s v n b)(h1:e ≠ 126)(h2:e ≠ 56):w1.ownsRow base e s v n b :=
 m.row a (aW a h.blk h1) (eB a h.own h2)
theorem PS.rP {a:List NV}(h:PS g tv l en iv w k (xs ++ a) nv){x:NV}(d:x ∈ a){b n c:Nat}(f:w.heap.size≤b):x.2.ownBlock=none∨x.2.ownBlock ≠ (Value.slice (some ⟨b,0,none⟩) n c).ownBlock:=by
 right
 intro e
 have:=(World.ownsRow.lt (h.kids x (List.mem_append_right _ d)) b (by rw [e];rfl)).2
 omega
theorem Od {ext:List NV}{x:NV}{v:Value}(h:pK w ext)(a:x ∈ ext)(hv:∀ b,v.ownBlock=some b→b < w.heap.size):x.2.ownBlock=none∨x.2.ownBlock ≠ v.ownBlock:=by
 rcases h1:x.2.ownBlock with _ | b
 ·exact .inl rfl
 ·right
  intro e
  have:=h x a b h1
  have:=hv b e.symm
  omega
theorem Mv.agj {r0 r1 row:Option Nat}(h:Mv g r0 w r1 w1)(a:w1.grownBy w2 row)(d:∀ b,row=some b→w.heap.size≤b):Mv g r0 w r1 w2 :=
 ⟨a.os.trans h.os,a.tape.trans h.tape,a.output.trans h.output,Nat.le_trans h.size a.size,fun b c h1 h2=>(a.block b (amY c h.size) (fun e=>by have:=d b e.symm;omega)).trans (h.block b c h1 h2),h.tgt⟩
theorem PS.grown (h:PS g tv l en iv w k xs nv){row:Option Nat}(c:w.grownBy w1 row)(d:∀ b,row=some b→Far g nv xs b):PS g tv l en iv w1 k xs nv:=by
 have a:Below g w w1:=(Below.refl _ _).grown c (amM h.lt) (fun b a=>amM (d b a).lt)
 refine⟨h.blk.grown c (fun e=>by have:=(d g e.symm).lt;omega),h.own.kept c ?_,fun x f=>World.ownsRow.kept (h.kids x f) c ?_,h.toks.below a,qm h.env a⟩
 ·rcases h1:nv.ownBlock with _ | b
  ·exact .inl rfl
  ·right;intro e;exact (d b e.symm).row h1
 ·rcases h1:x.2.ownBlock with _ | b
  ·exact .inl rfl
  ·right;intro e;exact (d b e.symm).kids x f h1
theorem At.grown {ext:List NV}{q:Value}{r:Nat}{i:List Nd}{e s n:Nat}{v:Value}{A:List Value}{o:Obj}(h:At g tv l en iv w xs nv r i (w1.alloc o) ext q)(t:PS g tv l en iv w k xs nv)(m:w1.ownsRow w.heap.size e s v n A)(u:e ≠ 56)
  (j:(w1.alloc o).grownBy w2 v.ownBlock) (y:∀ x ∈ ext,x.2.ownBlock=none∨x.2.ownBlock ≠ v.ownBlock):At g tv l en iv w xs nv r i w2 ext q:=by
 have c:∀ b,v.ownBlock=some b→w.heap.size≤b:=fun b a=>(m.lt b a).1
 refine⟨h.ns,h.ps.grown j (fun b a=>⟨amY t.lt (c b a),fun d=>?_,fun x f d=>?_⟩),h.mv.agj j c,h.fresh⟩
 ·rcases eB (m.alloc o) h.ps.own u with h3 | h3
  ·rw [h3] at a;cases a
  ·exact h3 (by rw [a,d])
 ·rcases List.mem_append.1 f with f | f
  ·have h4:=World.ownsRow.lt (t.kids x f) b d
   have:=c b a
   omega
  ·rcases y x f with h3 | h3
   ·rw [h3] at d;cases d
   ·exact h3 (by rw [d,a])
end
theorem dN {l:List Tok}{t:Bs}{k:Nat}{f:Option j5}{r:j5}(h:Mist.need l t k f=some r):(tx l k=t∧f=some r)∨(¬ tx l k=t∧r=.bad k):=by
 unfold Mist.need at h
 split at h
 ·rename_i e;exact .inl ⟨e,h⟩
 ·rename_i e;exact .inr ⟨e,(amR h).symm⟩
theorem gy {l:List Tok}{c:Nat}{k:Nat}{f:Option j5}{r:j5}(h:Mist.eF l c k f=some r):((tg l k).kind=c∧f=some r)∨(¬ (tg l k).kind=c∧r=.bad k):=by
 unfold Mist.eF at h
 split at h
 ·rename_i e;exact .inl ⟨e,h⟩
 ·rename_i e;exact .inr ⟨e,(amR h).symm⟩
theorem dW {x:Option j5}{f:List Int→Nat→List Nd→Option j5}{r:j5}(h:thn x f=some r):(∃ ks k ns,x=some (.ok ks k ns)∧f ks k ns=some r)∨(∃ k,x=some (.bad k)∧r=.bad k):=by
 cases x with
 | none=>cases h
 | some y =>
  cases y with
  | ok ks k ns=>exact .inl ⟨ks,k,ns,rfl,h⟩
  | bad k=>exact .inr ⟨k,rfl,(amR h).symm⟩
theorem dS {n:Nd}{k:Nat}{ns:List Nd}{r:j5}(h:Mist.add n k ns=some r):r=.ok [(ns.length:Int)] k (ns ++ [n]):=(amR h).symm
theorem gG {p:Prop}[Decidable p]{a b:Option j5}{r:j5}(h:(if p then a else b)=some r):(p∧a=some r)∨(¬ p∧b=some r):=by
 split at h
 ·rename_i e;exact .inl ⟨e,h⟩
 ·rename_i e;exact .inr ⟨e,h⟩
def isFn:Job→Bool
 | .expr | .lv _ | .post | .atom | .put | .param | .typ=>true
 | _=>false
theorem At.agI {g:Nat}{tv:Value}{l:List Tok}{en:Int}{iv:Value}{w w1:World}{xs ext:List NV}{nv b:Value}{c:Nat}{a:List Nd}(h:At g tv l en iv w xs nv c a w1 ext b):(xs ++ ext).length=a.length:=h.len
end
section
open Go.RowKit Mist
attribute [local go_sem] ak aN aV aF aj
section
variable {g:Nat} {tv:Value} {l:List Tok} {en:Int} {iv:Value} (hF:PF l)
include hF
theorem Ch (v:Lv)(hem:∀ args W,Sem.run Tryz.prog (callFunc (xG v.below) args) W=.ok (.enter (xG v.below) args) W)(m:Nat)(C:∀ f,f≤m→IC g tv l en iv f (.lv v.below))(w:World)(k:Nat)(xs:List NV)(nv:Value)(r:j5)(h:PS g tv l en iv w k xs nv)(hk:k≤l.length)(hn:xs.length≤k)(hw:Wf (aH xs))
  (F c:Nat) (hb0:w.heap[F]? = some (.map (jF (ents v) 0).toArray c)) (hr:thn (run l en m (.lv v.below) k (aH xs)) (fun a t u=>run l en m (.tail v (hd a)) t u)=some r) :
  Calls Tryz.prog 187 #[.agg #[.map (some F),.func (.func (xG v.below)) #[] #[],.bool (decide (v=.cmp))],.pointer (some ⟨g,0,none⟩)] w (bG g tv l en iv w xs nv r):=by
 have HC:=O C;clear C;have H:=O h;clear h;have HW:=O hw;clear hw;have FF:=O (H.o.new (amL _));have xq:=O (bY.new w 234 #[.map (some F),.func (.func (xG v.below)) #[] #[],.bool (decide (v=.cmp))]);have H0:=O (H.o.alloc (.cells #[.map (some F),.func (.func (xG v.below)) #[] #[],.bool (decide (v=.cmp))] 234));have HM:=O (show (w.alloc (.cells #[.map (some F),.func (.func (xG v.below)) #[] #[],.bool (decide (v=.cmp))] 234)).heap[F]? = _ from nZ hb0 _);clear hb0;have HR:=O hr;clear hr;have T:=hF.len;go_in
 go_wp2_with fail;rcases hx:run l en m (.lv v.below) k (aH xs) with _ | x
 ·have:=HR.o;rw [hx] at this;cases this
 have G:=O hx;clear hx;have Y:=O (show thn (some x) (fun a t u=>run l en m (.tail v (hd a)) t u)=some r by have:=HR.o;rwa [G.o] at this)
 cases x with
 | bad kb =>
  obtain rfl:j5.bad kb=r:=amR Y.o;refine (HC.o m (amL _) _ k xs nv _ H0.o hk hn HW.o G.o).mono ?_;rintro e w1⟨rfl,hb⟩;unfold aY;go_wp2_with fail;exact⟨rfl,bG.bad rfl ((aU (Below.refl _ _) (amM H.o.lt)).trans hb)⟩
 | ok ks t u =>
  have A:=O (eG G.o hk HW.o (Ids.nil _) (by simp));refine (HC.o m (amL _) _ k xs nv _ H0.o hk hn HW.o G.o).mono ?_;rintro e w1⟨rfl,ext,ji,ha⟩;have E:=O ha;clear ha;have HB1:=O (E.o.blk H0.o xq.o (by decide) (by decide));have HM1:=O (E.o.map H0.o HM.o);have X:=O (At.from_ E.o);have Z:=O (show run l en m (.tail v (hd ks)) t (aH (xs ++ ext))=some r by rw [E.o.ns];exact Y.o);clear HR Y G;have hk1:=A.o.le;have hf1:=A.o.few;rw [dK] at hf1
  have hl1:=E.o.len;have Mx:=O (show Wf (aH (xs ++ ext)) by rw [E.o.ns];exact A.o.wf);have sM:=O (show 0≤hd ks∧hd ks < ((xs ++ ext).length:Int) by rw [hl1];exact A.o.hd);have hcn:(xs ++ ext).length≤t:=by omega
  clear hl1 hf1 A E HM xq;obtain⟨j,hav⟩:∃ j,j=hd ks:=⟨_,rfl⟩;rw [← hav] at Z sM ⊢
  clear hav;have Y5:=O X.o.ns;go_wp2_with fail
  go_loopw [5] (fun a wr=>∃ (f d:Nat) (ext:List NV) (gY:Value) (j:Int),a=.int .i64 j∧f≤m∧d≤l.length∧(xs ++ ext).length≤d∧Hid (run l en f (.tail v j) d (aH (xs ++ ext))=some r)∧Hid (Wf (aH (xs ++ ext)))∧Hid (0≤j∧j < ((xs ++ ext).length:Int)) ∧
    Hid (At g tv l en iv w xs nv d (aH (xs ++ ext)) wr ext gY)∧Hid (bY wr w.heap.size 234 #[.map (some F),.func (.func (xG v.below)) #[] #[],.bool (decide (v=.cmp))])∧Hid (wr.heap[F]? = some (.map (jF (ents v) 0).toArray c))) (fun _ wr=>xH g l.length wr)
  case atStart=>exact⟨m,t,ext,ji,j,rfl,amL _,hk1,hcn,Z,Mx,sM,by rw [Y5.o];exact X,HB1,HM1⟩
  case round =>
   clear X HB1 HM1 Z Mx sM hcn hk1 Y5;obtain⟨f,d,ext,gY,j,rfl,hfm,hk',hn',KG,Mx,sM,E,xq,HM⟩:=hrel
   obtain⟨f,rfl⟩:∃ f0,f=f0+1:=⟨f - 1,by
    rcases Nat.eq_zero_or_pos f with h | h
    ·subst h;have:=KG.o;rw [run] at this;cases this
    ·omega⟩
   have HMS:=O (E.o.ps.xH (n:=l.length));go_wp2_with fail;refine (iU g tv l en iv _ d _ gY E.o.ps hk' T).mono ?_;rintro e w2⟨rfl,Q⟩;have q:=O ((E.o.below Q).alloc (.cells #[.int .u8 (tg l d).kind,.string (aG (tx l d)),.int .i64 (pl l en d)] 112));have L:=(xq.o.below Q xq.o.lt).alloc (.cells #[.int .u8 (tg l d).kind,.string (aG (tx l d)),.int .i64 (pl l en d)] 112);have bT2:=bY.new w2 112 #[.int .u8 (tg l d).kind,.string (aG (tx l d)),.int .i64 (pl l en d)];have vo:=O (nZ ((Q.block F (amI.1 HM.o).1).trans HM.o) (.cells #[.int .u8 (tg l d).kind,.string (aG (tx l d)),.int .i64 (pl l en d)] 112));clear Q;have hlk:=XG _ v F c vo.o (tx l d);have c0:=L.cell 0;have hl2:w.heap.size < w2.heap.size+1:=by have:=L.lt;simpa using this
   have ahf:=O L;clear L;have ahg:=O bT2;clear bT2;by_cases y:mq v (tx l d)=0
   ·have U:((mq v (tx l d):Int) == 0)=true:=by simp [y]
    have HST:=O (show r=.ok [j] d (aH (xs ++ ext)) by have:=KG.o;rw [I7 y] at this;exact (amR this).symm);clear y;go_wp2_with fail;go_ret;rw [HST.o];exact bG.ok rfl q.o
   ·have U:((mq v (tx l d):Int) == 0)=false:=by simp [y]
    have hkl:=(Vu y).1
    have Y3:=O (show thn (run l en f (.lv v.below) (d+1) (aH (xs ++ ext))) (fun b t u=>thn (add ⟨mq v (tx l d),[],0,[j,hd b],pl l en d⟩ t u) fun c k2 uX=>if v=.cmp then some (.ok [hd c] k2 uX) else run l en f (.tail v (hd c)) k2 uX)=some r by
     have:=KG.o;rw [PW y] at this;exact this)
    clear y KG;go_wp2_with fail;refine (tQ g tv l en iv _ d _ gY q.o.ps hk' T).mono ?_;rintro e w3⟨rfl,p3,m3⟩;have fU:=O (q.o.step p3 m3);have M:=q.o.ps.bH m3 ahf.o;have B:=q.o.ps.bH m3 ahg.o;have Jd:=O ((m3.block F (amI.1 vo.o).1 (q.o.ps.qH vo.o).1 (q.o.ps.qH vo.o).2).trans vo.o);clear m3 p3 hlk c0 hl2 U;have s0:=B.cell 0;have s1:=B.cell 1;have s2:=B.cell 2;have s3:=M.cell 1;have hl3:=B.lt;have hl4:=M.lt;have Iy:=O M;clear M;have ai_:=O B;clear B;clear q ahf ahg vo xq HM E;go_wp2_with fail;rcases hx:run l en f (.lv v.below) (d+1) (aH (xs ++ ext)) with _ | x
    ·have:=Y3.o;rw [hx] at this;cases this
    have G:=O hx;clear hx;have HG2:=O (show thn (some x) _=some r by have:=Y3.o;rw [G.o] at this;exact this);clear Y3
    cases x with
    | bad kb =>
     obtain rfl:j5.bad kb=r:=amR HG2.o;have V7:=O (H.o.low fU.o.mv);refine wp_region_held_drew (S:=fun R=>R.cell? ⟨w2.heap.size,0,none⟩=some (.int .u8 (tg l d).kind)∧R.cell? ⟨w2.heap.size,1,none⟩=some (.string (aG (tx l d)))∧R.cell? ⟨w2.heap.size,2,none⟩=some (.int .i64 (pl l en d))∧R.cell? ⟨w.heap.size,1,none⟩=some (.func (.func (xG v.below)) #[] #[])) (by kernel_rfl) ⟨s0,s1,s2,s3⟩ (fun i=>?_);refine cB 0 rfl i ?_;simp only [Act.put,amC,amD,amE];refine cB 1 rfl i ?_;simp only [Act.put,amC,amD,amE];refine cB 2 rfl i ?_;simp only [Act.put,amC,amD,amE];refine cB 3 rfl i ?_;simp only [Act.put,amC,amD,amE];refine cB 4 rfl i ?_;simp only [Act.put,amC,amD,amE];refine cB 5 rfl i ?_;simp only [Act.put,amC,amD,amE];refine cB 6 rfl i ?_;simp only [Act.put,amC,amD,amE];refine wpAnyH_ready (rs:=[7]) (by kernel_rfl) (by simp) ?_;refine gM (.s (.s (.s (.s (.s (.s (.s .z))))))) (fun K hK=>?_);go_simp;refine (HC.o f (by omega) _ (d+1) (xs ++ ext) gY _ fU.o.ps.drew (by omega) (by omega) Mx.o G.o).mono ?_;rintro e w4⟨rfl,hb4⟩;unfold aY;go_wp2_with fail;exact⟨rfl,bG.bad rfl ((Below.drew V7.o).trans hb4)⟩
    | ok kb t u =>
     have A:=O (eG G.o (by omega) Mx.o (Ids.nil _) (by simp))
     go_region_held3 (fun R=>R.cell? ⟨w2.heap.size,0,none⟩=some (.int .u8 (tg l d).kind)∧R.cell? ⟨w2.heap.size,1,none⟩=some (.string (aG (tx l d)))∧R.cell? ⟨w2.heap.size,2,none⟩=some (.int .i64 (pl l en d))∧R.cell? ⟨w.heap.size,1,none⟩=some (.func (.func (xG v.below)) #[] #[]))
      (first | go_keep|(go_split_ands;refine⟨?_,?_,?_,?_⟩ <;> assumption))
      (first
       | (go_at_call 168;refine (h_ g tv l en iv u.length _ _ _ _ _ _ _ [j,hd kb] _ t (xs ++ (ext ++ V)) Ed (vg.o.ps.alloc _) (ET w4 j (hd kb)) vg.o.len (by have h1:=vg.o.len;have h2:=A.o.few;have h3:=A.o.le;simp only [dK] at h2;omega)).mono ?_;rintro e w5⟨rfl,Qx,p5,m5⟩;have P:=m5.blk (afT.o.alloc _) (I.o.ps.tag afT.o (by decide) (by decide)).1 (I.o.ps.tag afT.o (by decide) (by decide)).2;have bL5:=m5.blk (MW.o.alloc _) (I.o.ps.tag MW.o (by decide) (by decide)).1 (I.o.ps.tag MW.o (by decide) (by decide)).2;have e0:=P.cell 0;have e1:=P.cell 1;have e2:=P.cell 2;have e3:=bL5.cell 1;have HM5:=O ((m5.block F (by have:=(amI.1 J.o).1;simp;omega) (I.o.ps.qH J.o).1 (I.o.ps.qH J.o).2).trans (nZ J.o _));have MX:=O bL5;clear bL5;have kR:=O ((At.alloc vg.o _).add p5 m5 (by intro b hb;simp [Value.ownBlock] at hb;omega));clear p5 m5 P)
       | (refine (HC.o f (by omega) _ (d+1) (xs ++ ext) gY _ fU.o.ps.drew (by omega) (by omega) Mx.o G.o).mono ?_;rintro e w4⟨rfl,V,Ed,MH⟩;have I:=O MH;clear MH;have vg:=O (fU.o.drew.trans I.o);have D:=I.o.blk fU.o.ps.drew ai_.o.drew (by decide) (by decide);have N:=I.o.blk fU.o.ps.drew Iy.o.drew (by decide) (by decide);have d0:=D.cell 0;have d1:=D.cell 1;have d2:=D.cell 2;have d3:=N.cell 1;have hl5:=D.lt;have hl6:=N.lt;have J:=O (I.o.map fU.o.ps.drew Jd.o);have MW:=O N;clear N;have afT:=O D;clear D))
     all_goals
      have g1:=A.o.lo;have g2:=A.o.few;have g3:=A.o.le;have g4:=vg.o.len;have g5:=A.o.len;simp only [dK] at g2 g5
      simp only [Job.reads] at g1
      have b2:=MX.o.cell 2;have hlb:=MX.o.lt;clear e0 e1 e2 e3 d0 d1 d2 d3 s0 s1 s2 s3 hl3 hl4 hl5 hl6;have Eu:=O (show (if v=.cmp then some (.ok [((u.length:Nat):Int)] t (u ++ [⟨mq v (tx l d),[],0,[j,hd kb],pl l en d⟩])) else run l en f (.tail v ((u.length:Nat):Int)) t (u ++ [⟨mq v (tx l d),[],0,[j,hd kb],pl l en d⟩]))=some r from HG2.o);by_cases hv:v=.cmp
      ·rw [amW hv] at b2
       have HST:=O (show r=.ok [((u.length:Nat):Int)] t (u ++ [⟨mq v (tx l d),[],0,[j,hd kb],pl l en d⟩]) by
        have h5:=Eu.o;rw [if_pos hv] at h5;exact (amR h5).symm)
       clear g4 Eu;go_wp2_with fail;go_ret;rw [HST.o];exact bG.ok rfl kR.o
      ·rw [amX hv] at b2
       replace Eu:=O (by have h5:=Eu.o;rwa [if_neg hv] at h5)
       have FD:=O (show run l en f (.tail v ((u.length:Nat):Int)) t (aH (xs ++ (ext ++ V ++ [(⟨mq v (tx l d),[],0,[j,hd kb],pl l en d⟩,.slice (some ⟨w4.heap.size,0,none⟩) 2 2)])))=some r by
        rw [kR.o.ns];exact Eu.o)
       have HWN:=O (show Wf (aH (xs ++ (ext ++ V ++ [(⟨mq v (tx l d),[],0,[j,hd kb],pl l en d⟩,.slice (some ⟨w4.heap.size,0,none⟩) 2 2)]))) by
        rw [kR.o.ns];exact A.o.wf.add (Ids.cons (by have:=sM.o;omega) (Ids.cons A.o.hd (Ids.nil _))))
       have HAN:=O (show At g tv l en iv w xs nv t (aH (xs ++ (ext ++ V ++ [(⟨mq v (tx l d),[],0,[j,hd kb],pl l en d⟩,.slice (some ⟨w4.heap.size,0,none⟩) 2 2)]))) w5 (ext ++ V ++ [(⟨mq v (tx l d),[],0,[j,hd kb],pl l en d⟩,.slice (some ⟨w4.heap.size,0,none⟩) 2 2)]) Qx by
        rw [kR.o.ns];exact kR.o)
       have hln:(xs ++ (ext ++ V ++ [((⟨mq v (tx l d),[],0,[j,hd kb],pl l en d⟩:Nd),Value.slice (some ⟨w4.heap.size,0,none⟩) 2 2)])).length=(xs ++ (ext ++ V)).length+1:=by simp;omega
       have HLN:=O hln;clear hln;have Kz:=O g4;clear g4;go_wp2_with fail
       refine⟨⟨f,t,_,Qx,_,rfl,by omega,g3,by rw [HLN.o,Kz.o];omega,FD,HWN,O ⟨by omega,by rw [HLN.o,Kz.o];omega⟩,HAN,MX,HM5⟩,?_⟩
       rw [HMS.o,kR.o.ps.xH];omega
end
section
variable {g:Nat} {tv:Value} {l:List Tok} {en:Int} {iv:Value} (hF:PF l)
include hF
theorem aeS (m:Nat)(C:∀ f,f≤m→IC g tv l en iv f (.lv .and)):IC g tv l en iv (m+1) (.lv .or):=by
 intro w k xs nv r h B E j b;have H:=O h;clear h;have y:=O j;clear j;have t:=O C;clear C;have x:=O (show thn (run l en m (.lv .and) k (aH xs)) (fun a n c=>run l en m (.tail .or (hd a)) n c)=some r by rw [run] at b <;> first | exact b | decide|(intro h;cases h));clear b;have D:=@run_makeMap Tryz.prog;have F:(Instr.mapUpdate 232 (.map (some w.heap.size)) (.string ⟨#[111,114]⟩) (.int .u8 18)).run Tryz.prog (w.alloc (.map #[] 0))=.ok () (w.alloc (.map (jF [([111,114],.int .u8 18)] 0).toArray 1)):=eU 232 5 Tryz.underlying232 w [] [111,114] (.int .u8 18) (by decide +kernel);have u:=O (heap_alloc_new w (.map (jF [([111,114],.int .u8 18)] 0).toArray 1));have v:=O (H.o.alloc (.map (jF [([111,114],.int .u8 18)] 0).toArray 1));unfold rO xG;go_enter Tryz.func184,Tryz.ntmps184
 go_wp2_with fail;refine (Ch hF .or (fun _ _=>by kernel_rfl) m t.o _ k xs nv r v.o B E y.o w.heap.size 1 u.o x.o).mono ?_;intro e w1 i
 cases r with
 | bad kb =>
  obtain⟨rfl,A⟩:=i;unfold aY;go_wp2_with fail;exact⟨rfl,bG.bad rfl ((aU (Below.refl _ _) (amM H.o.lt)).trans A)⟩
 | ok ks n c =>
  obtain⟨rfl,ext,G,d⟩:=i;have q:=O (At.from_ d);clear d;go_wp2_with fail;go_ret;exact bG.ok rfl q.o
theorem acs (m:Nat)(C:∀ f,f≤m→IC g tv l en iv f (.lv .not)):IC g tv l en iv (m+1) (.lv .and):=by
 intro w k xs nv r h B E j b;have H:=O h;clear h;have y:=O j;clear j;have t:=O C;clear C;have x:=O (show thn (run l en m (.lv .not) k (aH xs)) (fun a n c=>run l en m (.tail .and (hd a)) n c)=some r by rw [run] at b <;> first | exact b | decide|(intro h;cases h));clear b;have D:=@run_makeMap Tryz.prog;have F:(Instr.mapUpdate 232 (.map (some w.heap.size)) (.string ⟨#[97,110,100]⟩) (.int .u8 17)).run Tryz.prog (w.alloc (.map #[] 0))=.ok () (w.alloc (.map (jF [([97,110,100],.int .u8 17)] 0).toArray 1)):=eU 232 5 Tryz.underlying232 w [] [97,110,100] (.int .u8 17) (by decide +kernel);have u:=O (heap_alloc_new w (.map (jF [([97,110,100],.int .u8 17)] 0).toArray 1));have v:=O (H.o.alloc (.map (jF [([97,110,100],.int .u8 17)] 0).toArray 1));unfold rO xG;go_enter Tryz.func186,Tryz.ntmps186
 go_wp2_with fail;refine (Ch hF .and (fun _ _=>by kernel_rfl) m t.o _ k xs nv r v.o B E y.o w.heap.size 1 u.o x.o).mono ?_;intro e w1 i
 cases r with
 | bad kb =>
  obtain⟨rfl,A⟩:=i;unfold aY;go_wp2_with fail;exact⟨rfl,bG.bad rfl ((aU (Below.refl _ _) (amM H.o.lt)).trans A)⟩
 | ok ks n c =>
  obtain⟨rfl,ext,G,d⟩:=i;have q:=O (At.from_ d);clear d;go_wp2_with fail;go_ret;exact bG.ok rfl q.o
theorem acv (m:Nat)(C:∀ f,f≤m→IC g tv l en iv f (.lv .sum)):IC g tv l en iv (m+1) (.lv .cmp):=by
 intro w k xs nv r h B E j b;have H:=O h;clear h;have y:=O j;clear j;have t:=O C;clear C;have x:=O (show thn (run l en m (.lv .sum) k (aH xs)) (fun a n c=>run l en m (.tail .cmp (hd a)) n c)=some r by rw [run] at b <;> first | exact b | decide|(intro h;cases h));clear b;have D:=@run_makeMap Tryz.prog;have F:(Instr.mapUpdate 232 (.map (some w.heap.size)) (.string ⟨#[61,61]⟩) (.int .u8 11)).run Tryz.prog (w.alloc (.map #[] 0))=.ok () (w.alloc (.map (jF [([61,61],.int .u8 11)] 0).toArray 1)):=eU 232 5 Tryz.underlying232 w [] [61,61] (.int .u8 11) (by decide +kernel);have G:(Instr.mapUpdate 232 (.map (some w.heap.size)) (.string ⟨#[33,61]⟩) (.int .u8 12)).run Tryz.prog (w.alloc (.map (jF [([61,61],.int .u8 11)] 0).toArray 1))=.ok () (w.alloc (.map (jF [([61,61],.int .u8 11),([33,61],.int .u8 12)] 0).toArray 2)):=eU 232 5 Tryz.underlying232 w [([61,61],.int .u8 11)] [33,61] (.int .u8 12) (by decide +kernel);have I:(Instr.mapUpdate 232 (.map (some w.heap.size)) (.string ⟨#[60]⟩) (.int .u8 13)).run Tryz.prog (w.alloc (.map (jF [([61,61],.int .u8 11),([33,61],.int .u8 12)] 0).toArray 2))=.ok () (w.alloc (.map (jF [([61,61],.int .u8 11),([33,61],.int .u8 12),([60],.int .u8 13)] 0).toArray 3)):=eU 232 5 Tryz.underlying232 w [([61,61],.int .u8 11),([33,61],.int .u8 12)] [60] (.int .u8 13) (by decide +kernel);have J:(Instr.mapUpdate 232 (.map (some w.heap.size)) (.string ⟨#[60,61]⟩) (.int .u8 14)).run Tryz.prog (w.alloc (.map (jF [([61,61],.int .u8 11),([33,61],.int .u8 12),([60],.int .u8 13)] 0).toArray 3))=.ok () (w.alloc (.map (jF [([61,61],.int .u8 11),([33,61],.int .u8 12),([60],.int .u8 13),([60,61],.int .u8 14)] 0).toArray 4)):=eU 232 5 Tryz.underlying232 w [([61,61],.int .u8 11),([33,61],.int .u8 12),([60],.int .u8 13)] [60,61] (.int .u8 14) (by decide +kernel);have K:(Instr.mapUpdate 232 (.map (some w.heap.size)) (.string ⟨#[62]⟩) (.int .u8 15)).run Tryz.prog (w.alloc (.map (jF [([61,61],.int .u8 11),([33,61],.int .u8 12),([60],.int .u8 13),([60,61],.int .u8 14)] 0).toArray 4))=.ok () (w.alloc (.map (jF [([61,61],.int .u8 11),([33,61],.int .u8 12),([60],.int .u8 13),([60,61],.int .u8 14),([62],.int .u8 15)] 0).toArray 5)):=eU 232 5 Tryz.underlying232 w [([61,61],.int .u8 11),([33,61],.int .u8 12),([60],.int .u8 13),([60,61],.int .u8 14)] [62] (.int .u8 15) (by decide +kernel);have L:(Instr.mapUpdate 232 (.map (some w.heap.size)) (.string ⟨#[62,61]⟩) (.int .u8 16)).run Tryz.prog (w.alloc (.map (jF [([61,61],.int .u8 11),([33,61],.int .u8 12),([60],.int .u8 13),([60,61],.int .u8 14),([62],.int .u8 15)] 0).toArray 5))=.ok () (w.alloc (.map (jF [([61,61],.int .u8 11),([33,61],.int .u8 12),([60],.int .u8 13),([60,61],.int .u8 14),([62],.int .u8 15),([62,61],.int .u8 16)] 0).toArray 6)):=eU 232 5 Tryz.underlying232 w [([61,61],.int .u8 11),([33,61],.int .u8 12),([60],.int .u8 13),([60,61],.int .u8 14),([62],.int .u8 15)] [62,61] (.int .u8 16) (by decide +kernel);have u:=O (heap_alloc_new w (.map (jF [([61,61],.int .u8 11),([33,61],.int .u8 12),([60],.int .u8 13),([60,61],.int .u8 14),([62],.int .u8 15),([62,61],.int .u8 16)] 0).toArray 6));have v:=O (H.o.alloc (.map (jF [([61,61],.int .u8 11),([33,61],.int .u8 12),([60],.int .u8 13),([60,61],.int .u8 14),([62],.int .u8 15),([62,61],.int .u8 16)] 0).toArray 6));unfold rO xG;go_enter Tryz.func196,Tryz.ntmps196
 go_wp2_with fail;refine (Ch hF .cmp (fun _ _=>by kernel_rfl) m t.o _ k xs nv r v.o B E y.o w.heap.size 6 u.o x.o).mono ?_;intro e w1 i
 cases r with
 | bad kb =>
  obtain⟨rfl,A⟩:=i;unfold aY;go_wp2_with fail;exact⟨rfl,bG.bad rfl ((aU (Below.refl _ _) (amM H.o.lt)).trans A)⟩
 | ok ks n c =>
  obtain⟨rfl,ext,M,d⟩:=i;have q:=O (At.from_ d);clear d;go_wp2_with fail;go_ret;exact bG.ok rfl q.o
theorem acy (m:Nat)(C:∀ f,f≤m→IC g tv l en iv f (.lv .term)):IC g tv l en iv (m+1) (.lv .sum):=by
 intro w k xs nv r h B E j b;have H:=O h;clear h;have y:=O j;clear j;have t:=O C;clear C;have x:=O (show thn (run l en m (.lv .term) k (aH xs)) (fun a n c=>run l en m (.tail .sum (hd a)) n c)=some r by rw [run] at b <;> first | exact b | decide|(intro h;cases h));clear b;have D:=@run_makeMap Tryz.prog;have F:(Instr.mapUpdate 232 (.map (some w.heap.size)) (.string ⟨#[43]⟩) (.int .u8 6)).run Tryz.prog (w.alloc (.map #[] 0))=.ok () (w.alloc (.map (jF [([43],.int .u8 6)] 0).toArray 1)):=eU 232 5 Tryz.underlying232 w [] [43] (.int .u8 6) (by decide +kernel);have G:(Instr.mapUpdate 232 (.map (some w.heap.size)) (.string ⟨#[45]⟩) (.int .u8 7)).run Tryz.prog (w.alloc (.map (jF [([43],.int .u8 6)] 0).toArray 1))=.ok () (w.alloc (.map (jF [([43],.int .u8 6),([45],.int .u8 7)] 0).toArray 2)):=eU 232 5 Tryz.underlying232 w [([43],.int .u8 6)] [45] (.int .u8 7) (by decide +kernel);have u:=O (heap_alloc_new w (.map (jF [([43],.int .u8 6),([45],.int .u8 7)] 0).toArray 2));have v:=O (H.o.alloc (.map (jF [([43],.int .u8 6),([45],.int .u8 7)] 0).toArray 2));unfold rO xG;go_enter Tryz.func200,Tryz.ntmps200
 go_wp2_with fail;refine (Ch hF .sum (fun _ _=>by kernel_rfl) m t.o _ k xs nv r v.o B E y.o w.heap.size 2 u.o x.o).mono ?_;intro e w1 i
 cases r with
 | bad kb =>
  obtain⟨rfl,A⟩:=i;unfold aY;go_wp2_with fail;exact⟨rfl,bG.bad rfl ((aU (Below.refl _ _) (amM H.o.lt)).trans A)⟩
 | ok ks n c =>
  obtain⟨rfl,ext,I,d⟩:=i;have q:=O (At.from_ d);clear d;go_wp2_with fail;go_ret;exact bG.ok rfl q.o
theorem X4 (m:Nat)(C:∀ f,f≤m→IC g tv l en iv f (.lv .unary)):IC g tv l en iv (m+1) (.lv .term):=by
 intro w k xs nv r h B E j b;have H:=O h;clear h;have y:=O j;clear j;have t:=O C;clear C;have x:=O (show thn (run l en m (.lv .unary) k (aH xs)) (fun a n c=>run l en m (.tail .term (hd a)) n c)=some r by rw [run] at b <;> first | exact b | decide|(intro h;cases h));clear b;have D:=@run_makeMap Tryz.prog;have F:(Instr.mapUpdate 232 (.map (some w.heap.size)) (.string ⟨#[42]⟩) (.int .u8 8)).run Tryz.prog (w.alloc (.map #[] 0))=.ok () (w.alloc (.map (jF [([42],.int .u8 8)] 0).toArray 1)):=eU 232 5 Tryz.underlying232 w [] [42] (.int .u8 8) (by decide +kernel);have G:(Instr.mapUpdate 232 (.map (some w.heap.size)) (.string ⟨#[47]⟩) (.int .u8 9)).run Tryz.prog (w.alloc (.map (jF [([42],.int .u8 8)] 0).toArray 1))=.ok () (w.alloc (.map (jF [([42],.int .u8 8),([47],.int .u8 9)] 0).toArray 2)):=eU 232 5 Tryz.underlying232 w [([42],.int .u8 8)] [47] (.int .u8 9) (by decide +kernel);have I:(Instr.mapUpdate 232 (.map (some w.heap.size)) (.string ⟨#[37]⟩) (.int .u8 10)).run Tryz.prog (w.alloc (.map (jF [([42],.int .u8 8),([47],.int .u8 9)] 0).toArray 2))=.ok () (w.alloc (.map (jF [([42],.int .u8 8),([47],.int .u8 9),([37],.int .u8 10)] 0).toArray 3)):=eU 232 5 Tryz.underlying232 w [([42],.int .u8 8),([47],.int .u8 9)] [37] (.int .u8 10) (by decide +kernel);have u:=O (heap_alloc_new w (.map (jF [([42],.int .u8 8),([47],.int .u8 9),([37],.int .u8 10)] 0).toArray 3));have v:=O (H.o.alloc (.map (jF [([42],.int .u8 8),([47],.int .u8 9),([37],.int .u8 10)] 0).toArray 3));unfold rO xG;go_enter Tryz.func203,Tryz.ntmps203
 go_wp2_with fail;refine (Ch hF .term (fun _ _=>by kernel_rfl) m t.o _ k xs nv r v.o B E y.o w.heap.size 3 u.o x.o).mono ?_;intro e w1 i
 cases r with
 | bad kb =>
  obtain⟨rfl,A⟩:=i;unfold aY;go_wp2_with fail;exact⟨rfl,bG.bad rfl ((aU (Below.refl _ _) (amM H.o.lt)).trans A)⟩
 | ok ks n c =>
  obtain⟨rfl,ext,J,d⟩:=i;have q:=O (At.from_ d);clear d;go_wp2_with fail;go_ret;exact bG.ok rfl q.o
end
section
variable {g:Nat} {tv:Value} {l:List Tok} {en:Int} {iv:Value} (hF:PF l)
include hF
theorem Lh (c:El)(m:Nat)(C:∀ f,f≤m→IC g tv l en iv f c.job):LC g tv l en iv (m+1) c:=by
 have hem:∀ args W,Sem.run Tryz.prog (callFunc (adS c) args) W=.ok (.enter (adS c) args) W:=by intro args W;cases c <;> kernel_rfl
 have hr1:c.job.reads=1:=by cases c <;> rfl
 have hjf:rO c.job=adS c:=by cases c <;> rfl
 unfold IC at C
 rw [hjf] at C
 clear hjf;intro w k xs nv r h hk hn hw hr;have HC:=O C;clear C;have H:=O h;clear h;have HW:=O hw;clear hw;have HR:=O (show thn (run l en m c.job k (aH xs)) (fun a A K=>run l en m (.lI c [hd a]) A K)=some r by rw [run] at hr;exact hr);clear hr;have hlen:=hF.len;obtain⟨i0,hi0,hz0,hz1,hz2⟩:=info_parts jq;go_enter Tryz.func169,Tryz.ntmps169
 go_wp2_with fail;rcases i:run l en m c.job k (aH xs) with _ | x
 ·have:=HR.o;rw [i] at this;cases this
 have G:=O i;clear i;have L:=O (show thn (some x) (fun a A K=>run l en m (.lI c [hd a]) A K)=some r by have:=HR.o;rwa [G.o] at this);clear HR
 cases x with
 | bad kb =>
  obtain rfl:j5.bad kb=r:=amR L.o;refine (HC.o m (amL _) _ k xs nv _ H.o hk hn HW.o G.o).mono ?_;rintro e w1⟨rfl,hb⟩;unfold aY;go_wp2_with fail;exact⟨rfl,DY.bad rfl hb⟩
 | ok ks A K =>
  have B:=O (eG G.o hk HW.o (by cases c <;> exact Ids.nil _) (by cases c <;> simp [El.job]));refine (HC.o m (amL _) _ k xs nv _ H.o hk hn HW.o G.o).mono ?_;rintro e w1⟨rfl,ext,ji,ha⟩;have t:=O ha;clear ha;have M:=O (show run l en m (.lI c [hd ks]) A (aH (xs ++ ext))=some r by rw [t.o.ns];exact L.o);clear L G;have hk1:=B.o.le;have hf1:=B.o.few;have hg1:=B.o.lo;simp only [hr1] at hg1
  rw [dK] at hf1
  have hl1:=t.o.len;have S:=O (show Wf (aH (xs ++ ext)) by rw [t.o.ns];exact B.o.wf);have sM:=O (show Ids [hd ks] (xs ++ ext).length by rw [hl1];exact Ids.cons B.o.hd (Ids.nil _));have Z:(xs ++ ext).length≤A:=by omega
  have hsz:=t.o.mv.size;have D:=O (show (w1.alloc (.cells #[.int .i64 (hd ks)] 3)).ownsRow w.heap.size 3 1 (.slice (some ⟨w1.heap.size,0,none⟩) 1 1) 1 (intCells [hd ks]) from World.ownsRow_lit w1 _ 1 hsz (by simp [maxLen]) rfl);have E:=O (show ∀ x ∈ ext,x.2.ownBlock=none∨x.2.ownBlock ≠ (Value.slice (some ⟨w1.heap.size,0,none⟩) 1 1).ownBlock from fun x i=>t.o.ps.rP i (amL _));have I:=O (t.o.alloc (.cells #[.int .i64 (hd ks)] 3));have hk0:1≤A:=by omega
  clear hl1 hf1 B t hg1;obtain⟨av,Y⟩:∃ av,av=hd ks:=⟨_,rfl⟩;rw [← Y] at M sM D I ⊢
  clear Y;have Y5:=O I.o.ns;go_wp2_with fail
  go_loopw [5] (fun v wr=>∃ (f y:Nat) (ext:List NV) (gY:Value) (d:List Int) (q:Nat),f≤m∧y≤l.length∧(xs ++ ext).length≤y∧q≤y∧Hid (d.length=q)∧0 < q∧Hid (run l en f (.lI c d) y (aH (xs ++ ext))=some r)∧Hid (Wf (aH (xs ++ ext)))∧Hid (Ids d (xs ++ ext).length) ∧
    Hid (At g tv l en iv w xs nv y (aH (xs ++ ext)) wr ext gY)∧wr.ownsRow w.heap.size 3 1 v q (intCells d)∧Hid (∀ x ∈ ext,x.2.ownBlock=none∨x.2.ownBlock ≠ v.ownBlock)) (fun _ wr=>xH g l.length wr)
  case atStart=>exact⟨m,A,ext,ji,[av],1,amL _,hk1,Z,hk0,O rfl,by omega,M,S,sM,by rw [Y5.o];exact I,D.o,E⟩
  case round =>
   clear I D E M S sM Z hk1 Y5 hk0;obtain⟨f,y,ext,gY,d,q,hfm,hk',hn',hq',HQ,hq0,KG,S,sM,t,F,E⟩:=hrel
   obtain⟨f,rfl⟩:∃ f0,f=f0+1:=⟨f - 1,by
    rcases Nat.eq_zero_or_pos f with h | h
    ·subst h;have:=KG.o;rw [run] at this;cases this
    ·omega⟩
   have HMS:=O (t.o.ps.xH (n:=l.length));obtain⟨A5,c5,rfl⟩:=dA F;have D:=O F;clear F;by_cases T:tx l y=[44]
   case neg =>
    have HST:=O (show r=.ok d y (aH (xs ++ ext)) by have:=KG.o;rw [run,if_neg T] at this;exact (amR this).symm);go_wp2_with fail;refine (lG g tv l en iv hF [44] (.inr (by decide +kernel)) _ y _ gY t.o.ps hk' T).mono ?_;rintro e w2⟨rfl,N⟩;have j:=O (t.o.below N);have J:=O (own_below D.o N);clear N;go_wp2_with fail;go_ret;rw [HST.o];exact DY.ok rfl (by rw [HQ.o];exact J.o) j.o E.o
   case pos =>
    have hkl:=dR T (by simp);have Y3:=O (show thn (run l en f c.job (y+1) (aH (xs ++ ext))) (fun a A K=>run l en f (.lI c (d ++ [hd a])) A K)=some r by have:=KG.o;rw [run,if_pos T] at this;exact this);go_wp2_with fail;refine (jT g tv l en iv hF [44] (.inr (by decide +kernel)) _ y _ gY t.o.ps hk' T).mono ?_;rintro e w2⟨rfl,p2,m2⟩;have j:=O (t.o.step p2 m2);have J:=O (t.o.ps.mM m2 D.o (by decide) (by decide));clear p2 m2;clear T KG;go_wp2_with fail;rcases i:run l en f c.job (y+1) (aH (xs ++ ext)) with _ | x
    ·have:=Y3.o;rw [i] at this;cases this
    have G:=O i;clear i;have U:=O (show thn (some x) (fun a A K=>run l en f (.lI c (d ++ [hd a])) A K)=some r by have:=Y3.o;rw [G.o] at this;exact this);clear Y3
    cases x with
    | bad kb =>
     obtain rfl:j5.bad kb=r:=amR U.o;have V7:=O (H.o.low j.o.mv);refine (HC.o f (by omega) _ (y+1) (xs ++ ext) gY _ j.o.ps (by omega) (by omega) S.o G.o).mono ?_;rintro e w4⟨rfl,hb4⟩;unfold aY;go_wp2_with fail;exact⟨rfl,DY.bad rfl (V7.o.trans hb4)⟩
    | ok kb A K =>
     have B:=O (eG G.o (by omega) S.o (by cases c <;> exact Ids.nil _) (by cases c <;> simp [El.job]));refine (HC.o f (by omega) _ (y+1) (xs ++ ext) gY _ j.o.ps (by omega) (by omega) S.o G.o).mono ?_;rintro e w4⟨rfl,Dg,Ed,MH⟩;have iw:=O MH;clear MH;have V:=O (j.o.ps.mM iw.o.mv J.o (by decide) (by decide));have R:=O (j.o.trans iw.o);have al6:=R.o.mv.size
     have Ra:=O (show ∀ x ∈ ext ++ Dg,x.2.ownBlock=none∨x.2.ownBlock ≠ (Value.slice A5 q c5).ownBlock from fun x i=>by
      rcases List.mem_append.1 i with i | i
      ·exact E.o x i
      ·exact Od iw.o.fresh i (fun b hb=>(J.o.lt b hb).2))
     have g1:=B.o.lo;have g2:=B.o.few;have g3:=B.o.le;have g4:=R.o.len;have g5:=B.o.len;simp only [dK] at g2 g5
     simp only [hr1] at g1
     have hqm:q+1≤100000:=by omega
     have Kz:=O g4;clear g4
     go_wp2_with (at_builtin
                  refine wpList_append_lies _ rfl (.tmp 12) (.tmp 16) 26 rfl w.heap.size 3 i0 _ 1 8 Tryz.underlying26 hi0 hz0 hz1 hz2 rfl (by decide) _ q (intCells d) rfl
                    (V.o.alloc _) ⟨w4.heap.size,0,none⟩ 1 1 [.int .i64 (hd kb)] rfl rfl (iK _ _ _) (by intro u hu;simp at hu;subst hu;rfl) (by omega) (by simp only [maxLen];omega) (by omega) (by simp;omega) (w4.heap.size+1) (by simp) ?_
                  intro gg cap w5 Q P X hgl)
     have kR:=O ((R.o.alloc (.cells #[.int .i64 (hd kb)] 3)).grown H.o V.o (by decide) P Ra.o);have HAT:=O X;clear X;have Y4:=O P;clear P
     refine⟨⟨f,A,ext ++ Dg,Ed,d ++ [hd kb],q+1,by omega,g3,by rw [Kz.o];omega,by omega,O (by rw [amQ,HQ.o];rfl),by omega,O (by rw [R.o.ns];exact U.o),O (by rw [R.o.ns];exact B.o.wf),O (by rw [Kz.o];exact (sM.o.mono g5).app (Ids.cons B.o.hd (Ids.nil _))),
      O (by rw [R.o.ns];exact kR.o),by rw [jf];exact Q,O (fun x i=>?_)⟩,?_⟩
     ·show x.2.ownBlock=none∨x.2.ownBlock ≠ some gg
      rcases HAT.o with e | e
      ·rw [← e];exact Ra.o x i
      ·rcases h9:x.2.ownBlock with _ | b
       ·exact .inl rfl
       ·right
        intro e2;injection e2 with e2
        have:=(World.ownsRow.lt (R.o.ps.kids x (List.mem_append_right _ i)) b h9).2
        omega
     ·rw [HMS.o,kR.o.ps.xH];omega
end
end
