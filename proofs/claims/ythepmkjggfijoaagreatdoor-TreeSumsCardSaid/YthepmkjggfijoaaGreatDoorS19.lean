/-
  A part of the proof.
-/
import Derived.Test.YthepmkjggfijoaaGreatDoorSA
import Derived.Defers
import Derived.Recover
import Derived.Test.YthepmkjggfijoaaGreatDoorS16
import Derived.Test.YthepmkjggfijoaaGreatDoorS17
import Derived.Test.YthepmkjggfijoaaGreatDoorS18
set_option linter.all false
set_option maxRecDepth 100000
set_option maxHeartbeats 4000000
open Go.Lib (hid)
namespace Go.Proofs.YthepmkjggfijoaaGreatDoor
open Go.RowKit Mist
attribute [local go_sem] aj aH aS aB ak
section
variable {g:Nat} {tv:Value} {l:List Tok} {en:Int} {iv:Value} (hF:PF l)
include hF
theorem Z8 (m:Nat)(w:World)(k:Nat)(xs:List NV)(nv:Value)(r:j6)(h:PS g tv l en iv w (k+1) xs nv)(hk:k+1≤l.length)(hn:xs.length≤k)(hw:Wf (aA xs))(hr:gI l en m .ask k (aA xs)=some r) :
  Calls Tryz.prog 188 #[.pointer (some ⟨g,0,none⟩),.agg #[.int .u8 (tg l k).kind,.string (aM (tx l k)),.int .i64 (pl l en k)]] w (aR g tv l en iv w xs nv r):=by
 have C:=fun (f:Nat) (_:f≤m) (j:Job) (hj:isFn j=true)=>qd (g:=g) (tv:=tv) (en:=en) (iv:=iv) hF f j hj
 have CL:=fun (f:Nat) (_:f≤m) (e:El)=>pW (g:=g) (tv:=tv) (en:=en) (iv:=iv) hF f e
 have H:=hid h;clear h;have oU:=hid ((At.refl H.out).alloc (.cells #[.int .u8 (tg l k).kind,.string (aM (tx l k)),.int .i64 (pl l en k)] 68));have zl:=hid (aC.new w 68 #[.int .u8 (tg l k).kind,.string (aM (tx l k)),.int .i64 (pl l en k)]);have HW0:=hid hw;clear hw;have hn0:(aA xs).length≤k:=by rw [aD];exact hn
 have hlen:=hF.len;unfold gI at hr
 have qm:=hid hr;clear hr;go_in
 obtain⟨i0,hi0,hz0,hz1,hz2⟩:=info_parts gN;have Ea:=qm.out;unfold wT at Ea;have HRU1:=hid Ea;clear Ea
 go_wp2_with fail;refine (O9 _).mono ?_;rintro e w2⟨rfl,rfl⟩;have hms:=heap_alloc_new (w.alloc (.cells #[.int .u8 (tg l k).kind,.string (aM (tx l k)),.int .i64 (pl l en k)] 68)) (.map (jF EL 0).toArray 8);rw [show (w.alloc (.cells #[.int .u8 (tg l k).kind,.string (aM (tx l k)),.int .i64 (pl l en k)] 68)).heap.size=w.heap.size+1 by simp] at hms;have HM:=hid hms;clear hms
 have eY:=hid (zl.out.alloc (.map (jF EL 0).toArray 8));clear zl;have HA2:=hid (oU.out.alloc (.map (jF EL 0).toArray 8));clear oU;go_wp2_with fail;refine (h_ g tv l en iv _ (k+1) _ _ HA2.out.ps (by omega) hlen).mono ?_;rintro e w3⟨rfl,hb3⟩;have qj:=hid ((hb3.block _ (aaG.1 HM.out).1).trans HM.out);have iG:=hid (eY.out.below hb3 eY.out.lt);clear eY;have gM:=hid (HA2.out.below hb3);clear HA2;clear hb3;have hlk:=aap _ _ _ qj.out (tx l (k+1));have tf1:=mQ;obtain⟨Q,hQ⟩:∃ Q,Q=gy (tx l (k+1)):=⟨_,rfl⟩;rw [← hQ] at hlk
 have Qs:=HRU1.out;rw [← hQ] at Qs
 have hQ8:Q≤8:=by rw [hQ];unfold gy;(repeat' split) <;> omega
 have hQt:Q ≠ 0→k+1 < l.length:=fun h=>aP (s:=tx l (k+1)) rfl (fun e9=>h (by rw [hQ,e9];rfl))
 clear hQ;rcases gG Qs with ⟨he20,RY⟩ | ⟨he20,RY⟩
 all_goals clear Qs
 ·skip;obtain rfl:j6.bad (k+1)=r:=aaP RY;subst he20;have hq9:(((0:Nat):Int) == 0)=true:=rfl;go_wp2_with fail;refine (sJ g tv l en iv _ (k+1) _ _ gM.out.ps (by omega) hlen).mono ?_;rintro e wq⟨rfl,hbq⟩
  (try unfold aI)
  go_wp2_with fail;exact⟨rfl,aR.bad rfl ((H.out.low gM.out.mv).trans (hbq.mono (aaK gM.out.ps.lt)))⟩
 ·skip;have hlt20:=hQt he20;have HRQ:=hid RY;clear RY;have hq9:((Q:Int) == 0)=false:=by simp;omega
  go_wp2_with fail;refine (nO g tv l en iv _ (k+1) _ _ gM.out.ps (by omega) hlen).mono ?_;rintro e w4⟨rfl,p4,m4⟩;clear hlk hq9;have iw:=hid (gM.out.ps.aU m4 iG.out);clear iG;have fq:=hid (gM.out.step p4 m4);clear gM;clear p4 m4;rcases gG HRQ.out with ⟨Mg,Ow⟩ | ⟨Mg,Ow⟩
  ·skip;subst Mg;have Jr:=hid Ow;clear Ow;obtain rfl:=dV Jr.out;have fH:=iw.out.cell 0;have fQ:=iw.out.cell 1;have fT:=iw.out.cell 2;have sl0:=iw.out.lt;go_wp2_with fail;refine (gB g tv l en iv (aA xs).length 46 _ _ _ [] 7 _ [] _ ((k+1)+1) _ _ fq.out.ps (cB.none_ _) fq.out.len (by omega)).mono ?_;rintro e w5⟨rfl,Fu,p5,m5⟩;have rM:=hid (fq.out.add p5 m5 (by intro b hb;simp [Value.ownBlock] at hb));clear p5 m5;go_wp2_with fail;go_ret;exact aR.ok rfl rM.out
  ·skip;rcases gG Ow with ⟨Mh,Ox⟩ | ⟨Mh,Ox⟩
   all_goals clear Ow
   ·skip;subst Mh;have Jr:=hid Ox;clear Ox;rcases dW Jr.out with ⟨ks6,k6,ns6,hx6,Ul⟩ | ⟨kb6,hx6,rfl⟩
    rotate_left
    ·have HX6:=hid hx6;clear hx6;go_wp2_with fail;refine (CL m (aaJ _) .expr _ ((k+1)+1) _ _ _ fq.out.ps (by omega) (by rw [fq.out.len];omega) (by rw [fq.out.ns];exact HW0.out) (by rw [fq.out.ns];exact HX6.out)).mono ?_;rintro e w6⟨rfl,hb6⟩
     (try unfold aI)
     go_wp2_with fail;exact⟨rfl,aR.bad rfl ((H.out.low fq.out.mv).trans hb6)⟩
    have HX6:=hid hx6;clear hx6;have Lu:=hid Ul;clear Ul Jr;go_wp2_with fail;refine (CL m (aaJ _) .expr _ ((k+1)+1) _ _ _ fq.out.ps (by omega) (by rw [fq.out.len];omega) (by rw [fq.out.ns];exact HW0.out) (by rw [fq.out.ns];exact HX6.out)).mono ?_;rintro e w6⟨v6,ext6,XB,rfl,ho6,ha6,hd6⟩;have HV6:=hid (kI (base':=w.heap.size) ho6 (fun b hb=>Nat.le_trans fq.out.mv.size (ho6.lt b hb).1));clear ho6 hd6;have XP:=hid (aW HX6.out (by omega) HW0.out (Ids.nil _) (by simp));have gl6:=XP.out.lo;have gf6:=XP.out.few;have ge6:=XP.out.le;have gn6:=XP.out.len;simp only [Job.reads] at gl6
    have n_:=hid (ha6.blk fq.out.ps iw.out (by decide) (by decide));clear iw;have HWF6:=hid XP.out.wf;have ow:=hid (fq.out.trans ha6);clear fq;clear ha6;obtain rfl:=dV Lu.out;have fH:=n_.out.cell 0;have fQ:=n_.out.cell 1;have fT:=n_.out.cell 2;have sl0:=n_.out.lt;go_wp2_with fail;refine (gB g tv l en iv ns6.length 46 _ _ _ [] 8 _ ks6 _ k6 _ _ ow.out.ps (kI HV6.out (fun _ _=>aaL _)) ow.out.len (by omega)).mono ?_;rintro e w7⟨rfl,nv7,p7,m7⟩;have rM:=hid (ow.out.add p7 m7 (fun b hb=>(HV6.out.lt b hb).1));clear p7 m7;go_wp2_with fail;go_ret;exact aR.ok rfl rM.out
   ·skip;have Jr:=hid Ox;clear Ox;have u7:((Q:Int) == 7)=false:=by simp;omega
    have u8:((Q:Int) == 8)=false:=by simp;omega
    have HVN:=hid (show w4.ownsRow w.heap.size 3 1 (.slice none 0 0) 0 (intCells []) from World.ownsRow_nil _ _ _ _);have HQN:=hid (show ([]:List Int).length=0 from rfl);have YB:=hid (ne_nil (ext:=[]));rcases dW Jr.out with ⟨Ib,k8,ns8,EG,Oy⟩ | ⟨kb8,EG,rfl⟩
    rotate_left
    ·have LJ:=hid EG;clear EG;go_wp2_with fail;refine (C m (aaJ _) .expr rfl _ ((k+1)+1) _ _ _ fq.out.ps (by omega) (by rw [fq.out.len];omega) (by rw [fq.out.ns];exact HW0.out) (by rw [fq.out.ns];exact LJ.out)).mono ?_;rintro e w8⟨rfl,tZ⟩
     (try unfold aI)
     go_wp2_with fail;exact⟨rfl,aR.bad rfl ((H.out.low fq.out.mv).trans tZ)⟩
    have LJ:=hid EG;clear EG;have U5:=hid Oy;clear Oy Jr;go_wp2_with fail;refine (C m (aaJ _) .expr rfl _ ((k+1)+1) _ _ _ fq.out.ps (by omega) (by rw [fq.out.len];omega) (by rw [fq.out.ns];exact HW0.out) (by rw [fq.out.ns];exact LJ.out)).mono ?_;rintro e w8⟨rfl,ext8,V_,Kq⟩;have Je:=hid (aW LJ.out (by omega) HW0.out (Ids.nil _) (by simp));have gl8:=Je.out.lo;have gf8:=Je.out.few;have ge8:=Je.out.le;have gn8:=Je.out.len;simp only [Job.reads] at gl8
    have uO:=hid (Kq.blk fq.out.ps iw.out (by decide) (by decide));clear iw;have Yz:=hid (uj YB.out Kq.fresh (fun b hb=>(HVN.out.lt b hb).2));clear YB;have Bw:=hid (fq.out.ps.iI Kq.mv HVN.out (by decide) (by decide));clear HVN;have Nz:=hid Je.out.wf;have zL:=hid (fq.out.trans Kq);clear fq;clear Kq
    go_wp2_with (at_builtin
                 refine wpList_append_lies _ rfl (.tmp 19) (.tmp 22) 24 rfl w.heap.size 3 i0 _ 1 8 Tryz.underlying24 hi0 hz0 hz1 hz2 rfl (by decide) _ 0 (intCells []) rfl
                   (Bw.out.alloc _) ⟨w8.heap.size,0,none⟩ 1 1 [.int .i64 (hd Ib)] rfl rfl (iP _ _ _) (by intro u hu;simp at hu;subst hu;rfl) (by omega) (by simp only [maxLen];omega) (by omega) (by have:=zL.out.mv.size;simp;omega) (w8.heap.size+1) (by simp) ?_
                 intro gg9 Zg w9 Oo hg9 Zx hgl9;have FI:=fZ uO.out Bw.out hg9 (by decide);have UE:=FI.cell 0;have UF:=FI.cell 1;have UG:=FI.cell 2;have szl0:=FI.lt)
    have YA:=hid (qG zL.out.ps Yz.out Zx (0+1) Zg);clear Zx;have l9:=hid (fZ uO.out Bw.out hg9 (by decide));have vK:=hid ((zL.out.alloc (.cells #[.int .i64 (hd Ib)] 3)).grown H.out Bw.out (by decide) hg9 Yz.out);have HV9:=hid (show w9.ownsRow w.heap.size 3 1 (.slice (some ⟨gg9,0,none⟩) (0+1) Zg) (0+1) (intCells ([] ++ [hd Ib])) by rw [eT];exact Oo);clear Oo;have HQ9:=hid (show ([] ++ [hd Ib]).length=0+1 by rw [aaO,HQN.out];rfl);clear hg9 hgl9;obtain rfl:=dV U5.out;have fH:=l9.out.cell 0;have fQ:=l9.out.cell 1;have fT:=l9.out.cell 2;have sl0:=l9.out.lt;refine (gB g tv l en iv ns8.length 46 _ _ _ [] (Q:Int) _ ([] ++ [hd Ib]) _ k8 _ _ vK.out.ps (Hy HQ9.out HV9.out) vK.out.len (by omega)).mono ?_;rintro e Qv⟨rfl,nv10,p10,m10⟩;have rM:=hid (vK.out.add p10 m10 (fun b hb=>(HV9.out.lt b hb).1));clear p10 m10;go_wp2_with fail;go_ret;exact aR.ok rfl rM.out
end
end Go.Proofs.YthepmkjggfijoaaGreatDoor
namespace Go.Proofs.YthepmkjggfijoaaGreatDoor
open Go.RowKit Mist
section
variable {g:Nat} {tv:Value} {l:List Tok} {en:Int} {iv:Value} (hF:PF l)
include hF
theorem OE (i:It)(m:Nat)(w:World)(k:Nat)(xs:List NV)(nv:Value)(r:j6)(h:PS g tv l en iv w (k+1) xs nv)(hk:k+1≤l.length)(hn:xs.length≤k)(hw:Wf (aA xs))(hr:gI l en m i k (aA xs)=some r) :
  Calls Tryz.prog (Fe i) #[.pointer (some ⟨g,0,none⟩),.agg #[.int .u8 (tg l k).kind,.string (aM (tx l k)),.int .i64 (pl l en k)]] w (aR g tv l en iv w xs nv r):=by
 cases i with
 | choose=>exact OG hF m w k xs nv r h hk hn hw hr
 | record=>exact OH hF m w k xs nv r h hk hn hw hr
 | zu=>exact VR hF m w k xs nv r h hk hn hw hr
 | yB=>exact VT hF m w k xs nv r h hk hn hw hr
 | observe=>exact Mr hF m w k xs nv r h hk hn hw hr
 | kW=>exact Ms hF m w k xs nv r h hk hn hw hr
 | ask=>exact Z8 hF m w k xs nv r h hk hn hw hr
end
theorem Qi (w:World):(zeroValue 145).run Tryz.prog w=.ok .nilFunc w:=by kernel_rfl
theorem V5 (w:World)(m c:Nat)(hm:w.heap[m]? = some (.map (jF Ci 0).toArray c))(x:Bs):(Instr.lookup 141 (.map (some m)) (.string (aM x)) true).run Tryz.prog w=.ok (.tuple #[((Hr x).map fun i=>fv (Fe i)).getD .nilFunc,.bool (Hr x).isSome]) w:=by
 have h:=Ic 141 145 .nilFunc Tryz.underlying141 w (Qi w) Ci m c hm x true;rw [h,Z6];simp
structure PR (g:Nat) (tv:Value) (l:List Tok) (en:Int) (iv:Value) (w:World) (k:Nat) (xs:List NV) (nv:Value) (its:List Int) (q:Nat):Prop where
 ps:PS g tv l en iv w k xs nv
 len:its.length=q
 row:w.ownsRow (g+1) 3 1 iv q (intCells its)
 ne:∀ x ∈ xs,x.2.ownBlock=none∨x.2.ownBlock ≠ iv.ownBlock
 far:∀ x ∈ xs,∀ b,x.2.ownBlock=some b→g < b
section
variable {g:Nat} {tv:Value} {l:List Tok} {en:Int} {iv:Value} {w w1 w2:World} {k k1:Nat} {xs ext:List NV} {nv gW:Value} {its:List Int} {q:Nat}
theorem PR.below (h:PR g tv l en iv w k xs nv its q)(hb:Below w.heap.size w w1):PR g tv l en iv w1 k xs nv its q :=
 ⟨h.ps.below hb,h.len,own_below h.row hb,h.ne,h.far⟩
theorem PR.alloc (h:PR g tv l en iv w k xs nv its q)(o:Obj):PR g tv l en iv (w.alloc o) k xs nv its q:=h.below ((Below.refl _ _).alloc (aaJ _) o)
theorem PR.drew (h:PR g tv l en iv w k xs nv its q):PR g tv l en iv w.drew k xs nv its q:=h.below (Below.drew (Below.refl _ _))
theorem PR.step (h:PR g tv l en iv w k xs nv its q)(p:PS g tv l en iv w1 k1 xs nv)(m:Mv g nv.ownBlock w nv.ownBlock w1):PR g tv l en iv w1 k1 xs nv its q :=
 ⟨p,h.len,h.ps.iI m h.row (by decide) (by decide),h.ne,h.far⟩
theorem PR.at_ {aJ:List Nd}(h:PR g tv l en iv w k xs nv its q)(a:At g tv l en iv w xs nv k1 aJ w1 ext gW):PR g tv l en iv w1 k1 (xs ++ ext) gW its q :=
 ⟨a.ps,h.len,h.ps.iI a.mv h.row (by decide) (by decide),uj h.ne a.fresh (fun b hb=>(h.row.lt b hb).2),fun x hx b hb=>by
  rcases List.mem_append.1 hx with hx | hx
  ·exact h.far x hx b hb
  ·have:=a.fresh x hx b hb;have:=h.ps.lt;omega⟩
theorem PR.grown {o:Obj}{a:Int}{gg cap:Nat}(h:PR g tv l en iv w k xs nv its q)(hg:(w.alloc o).grownBy w2 iv.ownBlock)(hat:iv.ownBlock=some gg∨gg=w.heap.size+1)
  (hown:w2.ownsRow (g+1) 3 1 (.slice (some ⟨gg,0,none⟩) (q+1) cap) (q+1) (intCells its ++ [.int .i64 a])) :
  PR g tv l en (.slice (some ⟨gg,0,none⟩) (q+1) cap) (w2.setCell ⟨g,4,none⟩ (.slice (some ⟨gg,0,none⟩) (q+1) cap)) k xs nv (its ++ [a]) (q+1):=by
 have p:=(h.ps.alloc o).grown hg (fun b hb=>by
  have hb2:=h.row.lt b hb
  refine⟨by omega,fun e=>?_,fun x hx e=>?_⟩
  ·rcases iE h.row h.ps.own (by decide) with e2 | e2
   ·rw [hb] at e2;cases e2
   ·exact e2 (hb.trans e.symm)
  ·rcases h.ne x hx with e2 | e2
   ·rw [e] at e2;cases e2
   ·exact e2 (e.trans hb.symm))
 have m:Mv g nv.ownBlock w2 nv.ownBlock (w2.setCell ⟨g,4,none⟩ (.slice (some ⟨gg,0,none⟩) (q+1) cap)):=Mv.d_ p.blk 4 _
 refine⟨⟨(by have:=p.blk.d_ 4 (.slice (some ⟨gg,0,none⟩) (q+1) cap);simpa using this),ownsRow_setCell_other p.own (aT p.own p.blk (by decide)) _,fun x hx=>p.l6 m (p.kids x hx),p.toks.below (p.low m),rY p.env (p.low m)⟩,by rw [aaO,h.len];rfl,?_,qG (xs:=[]) h.ps h.ne hat _ _,h.far⟩
 rw [eT];exact ownsRow_setCell_other hown (aT hown p.blk (by decide)) _
theorem PR.low {o:Obj}{u:Value}{i:Nat}(h:PR g tv l en iv w k xs nv its q)(hg:(w.alloc o).grownBy w2 iv.ownBlock):Below g w (w2.setCell ⟨g,i,none⟩ u) :=
 dx (((Below.refl _ _).alloc (aaK h.ps.lt) o).grown hg (by have:=h.ps.lt;simp;omega) (fun b hb=>by have:=(h.row.lt b hb).1;omega)) (aaJ _)
theorem PR.more {w4 w5 w6:World}{aJ:List Nd}{o:Obj}{a:Int}{gg cap bm c:Nat}{es:Array MapEntry}(h4:PR g tv l en iv w4 k xs nv its q)(a5:At g tv l en iv w4.drew xs nv k1 aJ w5 ext gW)(hg:(w5.alloc o).grownBy w6 iv.ownBlock)(hat:iv.ownBlock=some gg∨gg=w5.heap.size+1)
  (hown:w6.ownsRow (g+1) 3 1 (.slice (some ⟨gg,0,none⟩) (q+1) cap) (q+1) (intCells its ++ [.int .i64 a])) (hm:w4.heap[bm]? = some (.map es c)) :
  PR g tv l en (.slice (some ⟨gg,0,none⟩) (q+1) cap) (w6.setCell ⟨g,4,none⟩ (.slice (some ⟨gg,0,none⟩) (q+1) cap)) k1 (xs ++ ext) gW (its ++ [a]) (q+1)∧Below g w4 (w6.setCell ⟨g,4,none⟩ (.slice (some ⟨gg,0,none⟩) (q+1) cap))∧(w6.setCell ⟨g,4,none⟩ (.slice (some ⟨gg,0,none⟩) (q+1) cap)).heap[bm]? = some (.map es c):=by
 have h5:=h4.drew.at_ a5;have hm5:w5.heap[bm]? = some (.map es c):=a5.map h4.drew.ps hm;have hm6:(w5.alloc o).heap[bm]? = some (.map es c):=gT hm5 _;have hlt:bm < (w5.alloc o).heap.size:=(aaG.1 hm6).1
 refine⟨h5.grown hg hat hown,(((Below.drew (Below.refl _ _)).trans (h4.drew.ps.low a5.mv)).trans (h5.low hg)),?_⟩
 have hne:some bm ≠ iv.ownBlock:=by
  intro e;rcases h5.row.2 with ⟨hv,_⟩ | ⟨b',cap,cur,hv,_,hh,_⟩
  ·rw [hv] at e;simp [Value.ownBlock] at e
  ·rw [hv] at e;simp [Value.ownBlock] at e
   rw [← e,hm5] at hh;cases hh
 have hng:bm ≠ g:=(h5.ps.jd hm5).1;exact (Below.heap_setCell w6 ⟨g,4,none⟩ _ bm (by simpa using hng)).trans ((hg.block bm hlt hne).trans hm6)
end
end Go.Proofs.YthepmkjggfijoaaGreatDoor
namespace Go.Proofs.YthepmkjggfijoaaGreatDoor
open Go.RowKit Mist
attribute [local go_sem] aj aH aS aB ak
def Gf (g:Nat)(tv:Value)(l:List Tok)(en:Int)(w:World)(r:j6)(e:Ending)(w':World):Prop :=
 match r with
 | .ok its k ns=>(∃ v,e=.returned v)∧(∃ xs nv iv q,PR g tv l en iv w' k xs nv its q∧aA xs=ns)∧Below g w w'
 | .bad k=>e=aI l en k∧Below g w w'
theorem Gf.bad {g:Nat}{tv:Value}{l:List Tok}{en:Int}{w w1:World}{k:Nat}{e:Ending}(he:e=aI l en k)(hb:Below g w w1):Gf g tv l en w (.bad k) e w1:=⟨he,hb⟩
section
variable {g:Nat} {tv:Value} {l:List Tok} {en:Int} (hF:PF l)
include hF
theorem O5 (n f:Nat)(w:World)(k q:Nat)(xs:List NV)(nv iv:Value)(its:List Int)(r:j6)(h:PR g tv l en iv w k xs nv its q)(hk:k≤l.length)(hn:xs.length≤k)(hq:q≤k)(hw:Wf (aA xs))(hr:prog l en n f k (aA xs) its=some r) :
  Calls Tryz.prog 93 #[.pointer (some ⟨g,0,none⟩)] w (Gf g tv l en w r):=by
 obtain⟨A,c,rfl,hlc,_⟩:=h.ps.toks;obtain⟨i0,hi0,hz0,hz1,hz2⟩:=info_parts gN;have H:=hid h;clear h;have HW0:=hid hw;clear hw;have HP0:=hid hr;clear hr;have hlen:=hF.len;have hgl:=H.out.ps.lt;go_in
 go_wp2_with fail;refine (VU _).mono ?_;rintro e w1⟨rfl,rfl⟩;have Yx:=hid (heap_alloc_new w (.map (jF Ci 0).toArray 7));have H1:=hid (H.out.alloc (.map (jF Ci 0).toArray 7));have HB0:=hid (ah (Below.refl g w) (aaK hgl) (o:=.map (jF Ci 0).toArray 7));go_wp2_with fail;go_loopw [3] (fun bv wr=>∃ (f' k' q':Nat) (xs':List NV) (eO AY:Value) (lV:List Int),k'≤l.length∧xs'.length≤k'∧q'≤k'∧Hid (PR g (.slice A l.length c) l en AY wr k' xs' eO lV q')∧Hid (wr.heap[w.heap.size]? = some (.map (jF Ci 0).toArray 7))∧Hid (Wf (aA xs'))∧Hid (prog l en n f' k' (aA xs') lV=some r)∧Hid (Below g w wr)) (fun _ wr=>nG g l.length wr)
 case atStart=>exact⟨f,k,q,xs,nv,iv,its,hk,hn,hq,H1,Yx,HW0,HP0,HB0⟩
 case round =>
  clear Yx H1 HB0 HP0 HW0 hk hn hq;obtain⟨f',k',q',xs',eO,AY,lV,hk',hn',hq',HR,HM,HW,HP,HB⟩:=hrel
  obtain⟨f',rfl⟩:∃ f0,f'=f0+1:=⟨f' - 1,by
   rcases Nat.eq_zero_or_pos f' with h | h
   ·subst h;have:=HP.out;rw [prog] at this;cases this
   ·omega⟩
  have Lp:=hid (HR.out.ps.nG (n:=l.length));have c0:=HR.out.ps.blk.cell 0;have c2:=HR.out.ps.blk.cell 2;have hgr:=HR.out.ps.lt;by_cases hkl:k' < l.length
  case neg =>
   have HST:=hid (show r=.ok lV k' (aA xs') by have:=HP.out;rw [prog,if_neg hkl] at this;exact (aaP this).symm);have d1:decide ((k':Int) < (l.length:Int))=false:=aaV (by omega);have d2:decide (k' < l.length)=false:=aaV (by omega);go_wp2_with fail;go_quiet (fail)
   go_wp2_with fail;refine bodyPost_ret (v:=.tuple #[]) (by simp [results,Tryz.f93,go_sem]) rfl ?_;rw [HST.out];exact⟨⟨_,rfl⟩,⟨_,_,_,_,HR.out.below (gU (Below.refl _ _) _),rfl⟩,gU HB.out _⟩
  case pos =>
   have xE:=hid (show thn (item l en n k' (aA xs')) (fun a k1 aJ=>need l [59] k1 <| prog l en n f' (k1+1) aJ (lV ++ [hd a]))=some r by have:=HP.out;rw [prog,if_pos hkl] at this;exact this);clear HP;have d1:decide ((k':Int) < (l.length:Int))=true:=aaU (by omega);have d2:decide (k' < l.length)=true:=aaU (by omega);go_wp2_with fail;go_quiet (fail)
   clear d1 d2 c0 c2;go_wp2_with fail;refine (h_ g _ l en AY _ k' _ _ (HR.out.below (gU (Below.refl _ _) _)).ps (by omega) hlen).mono ?_;rintro e w2⟨rfl,hb2⟩;have HR2:=hid ((HR.out.below (gU (Below.refl _ _) _)).below hb2);have hmd:=HM.out;have hms:w.heap.size < wr.heap.size:=(aaG.1 hmd).1;have qj:=hid ((hb2.block w.heap.size hms).trans hmd);clear hmd;have HB2:=hid ((gU HB.out _).trans (hb2.mono (aaK HR.out.ps.lt)));clear hb2 HR HM HB;have Dw:=hid (aC.new w2 68 #[.int .u8 (tg l k').kind,.string (aM (tx l k')),.int .i64 (pl l en k')]);have HR3:=hid (HR2.out.alloc (.cells #[.int .u8 (tg l k').kind,.string (aM (tx l k')),.int .i64 (pl l en k')] 68));have Jg:=hid (gT qj.out (.cells #[.int .u8 (tg l k').kind,.string (aM (tx l k')),.int .i64 (pl l en k')] 68));have HB3:=hid (ah HB2.out (aaK HR2.out.ps.lt) (o:=(.cells #[.int .u8 (tg l k').kind,.string (aM (tx l k')),.int .i64 (pl l en k')] 68)));have hlk:=V5 _ _ _ Jg.out (tx l k');have sc0:=Dw.out.cell 0;have sc1:=Dw.out.cell 1;have sc2:=Dw.out.cell 2;have slt:=Dw.out.lt;clear HR2 qj HB2;rcases hi:Hr (tx l k') with _ | i
   ·rw [hi] at hlk
    simp only [Option.map_none,Option.getD_none,Option.isSome_none] at hlk
    have HST:=hid (show j6.bad k'=r by
     have h9:=xE.out;have e9:item l en n k' (aA xs')=some (.bad k'):=by unfold item;split <;> simp [hi]
     rw [e9] at h9;exact aaP h9)
    clear hi;go_wp2_with fail;refine (sJ g _ l en AY _ k' _ _ HR3.out.ps (by omega) hlen).mono ?_;rintro e wq⟨rfl,hbq⟩;go_wp2_with fail;rw [← HST.out];exact⟨rfl,Gf.bad rfl (HB3.out.trans (hbq.mono (aaK HR3.out.ps.lt)))⟩
   have HI:=hid hi;rw [hi] at hlk
   simp only [Option.map_some,Option.getD_some,Option.isSome_some] at hlk
   unfold fv at hlk
   clear hi;by_cases hk3:(tg l k').kind=3
   case neg =>
    have n3:(((tg l k').kind:Int) != 3)=true:=by simp [bne];omega
    have HST:=hid (show j6.bad k'=r by
     have h9:=xE.out;have e9:item l en n k' (aA xs')=some (.bad k'):=by unfold item;rw [if_neg hk3]
     rw [e9] at h9;exact aaP h9)
    clear hk3;go_wp2_with fail;refine (sJ g _ l en AY _ k' _ _ HR3.out.ps (by omega) hlen).mono ?_;rintro e wq⟨rfl,hbq⟩;go_wp2_with fail;rw [← HST.out];exact⟨rfl,Gf.bad rfl (HB3.out.trans (hbq.mono (aaK HR3.out.ps.lt)))⟩
   case pos =>
    have n3:(((tg l k').kind:Int) != 3)=false:=by rw [hk3];rfl
    have HG2:=hid (show thn (gI l en n i k' (aA xs')) (fun a k1 aJ=>need l [59] k1 <| prog l en n f' (k1+1) aJ (lV ++ [hd a]))=some r by
     have h9:=xE.out;have e9:item l en n k' (aA xs')=gI l en n i k' (aA xs'):=by unfold item;rw [if_pos hk3,HI.out]
     rw [e9] at h9;exact h9)
    have HK3:=hid hk3;clear hk3 xE;go_wp2_with fail;refine (nO g _ l en AY _ k' _ _ HR3.out.ps (by omega) hlen).mono ?_;rintro e w4⟨rfl,p4,m4⟩;clear hlk n3 sc0 sc1 sc2 slt;have HR4:=hid (HR3.out.step p4 m4);have Ev:=hid ((m4.block _ (aaG.1 Jg.out).1 (HR3.out.ps.jd Jg.out).1 (HR3.out.ps.jd Jg.out).2).trans Jg.out);have tO:=hid (HB3.out.trans (HR3.out.ps.low m4));have E8:=hid (HR3.out.ps.aU m4 Dw.out);clear p4 m4 HR3 Jg HB3 Dw;have c4:=HR4.out.ps.blk.cell 4;have sc0:=E8.out.cell 0;have sc1:=E8.out.cell 1;have sc2:=E8.out.cell 2;have slt:=E8.out.lt;have hl4:=HR4.out.ps.lt;rcases hx:gI l en n i k' (aA xs') with _ | x
    ·have:=HG2.out;rw [hx] at this;cases this
    have HX:=hid hx;clear hx;have HG3:=hid (show thn (some x) (fun a k1 aJ=>need l [59] k1 <| prog l en n f' (k1+1) aJ (lV ++ [hd a]))=some r by have:=HG2.out;rw [HX.out] at this;exact this);clear HG2
    cases x with
    | bad kb =>
     have HST:=hid (show j6.bad kb=r from aaP HG3.out);cases i
     all_goals
      dsimp only [Fe]
      go_wp2_with fail;refine wp_region_held_drew (S:=fun w'=>w'.cell? ⟨g,4,none⟩=some AY∧w'.cell? ⟨w2.heap.size,0,none⟩=some (.int .u8 (tg l k').kind)∧w'.cell? ⟨w2.heap.size,1,none⟩=some (.string (aM (tx l k')))∧w'.cell? ⟨w2.heap.size,2,none⟩=some (.int .i64 (pl l en k'))) (by kernel_rfl) ⟨c4,sc0,sc1,sc2⟩ (fun hHeld=>?_);refine bf 0 rfl hHeld ?_;simp only [Act.put,aaA,aaB,aaC];refine bf 1 rfl hHeld ?_;simp only [Act.put,aaA,aaB,aaC];refine bf 2 rfl hHeld ?_;simp only [Act.put,aaA,aaB,aaC];refine bf 3 rfl hHeld ?_;simp only [Act.put,aaA,aaB,aaC];refine bf 4 rfl hHeld ?_;simp only [Act.put,aaA,aaB,aaC];refine bf 5 rfl hHeld ?_;simp only [Act.put,aaA,aaB,aaC];refine bf 6 rfl hHeld ?_;simp only [Act.put,aaA,aaB,aaC];refine bf 7 rfl hHeld ?_;simp only [Act.put,aaA,aaB,aaC];refine bf 8 rfl hHeld ?_;simp only [Act.put,aaA,aaB,aaC];refine wpAnyH_ready (rs:=[9]) (by kernel_rfl) (by simp) ?_;refine fJ (.s (.s (.s (.s (.s (.s (.s (.s (.s .z))))))))) (fun K hK=>?_);go_simp;refine (OE hF _ n _ k' xs' eO _ HR4.out.ps.drew (by omega) hn' HW.out HX.out).mono ?_;rintro e w5⟨rfl,hb5⟩;unfold aI;go_wp2_with fail;rw [← HST.out];exact⟨rfl,Gf.bad rfl (tO.out.trans ((Below.drew (Below.refl _ _)).trans hb5))⟩
    | ok ks k1 aJ =>
     have GO:=hid (u6 (by omega) HW.out (show item l en n k' (aA xs')=some (.ok ks k1 aJ) by unfold item;rw [if_pos HK3.out,HI.out];exact HX.out));have go1:=GO.out.lo;have go2:=GO.out.le;have go3:=GO.out.few;rw [aD] at go3
     have Jf:=hid (show need l [59] k1 (prog l en n f' (k1+1) aJ (lV ++ [hd ks]))=some r from HG3.out);clear HG3;cases i
     all_goals
      dsimp only [Fe]
      go_wp2_with fail;have f4:=HR4.out.ps.blk.frozen 4
      go_region_law ((first
        | (guard_target =~ ((if Region.wanted _ _=true then _ else _:Prop));refine step_append_lies _ (by rfl) _ _ _ (by rfl) (g+1) 3 i0 _ 1 8 Tryz.underlying24 hi0 hz0 hz1 hz2 rfl (by omega) _ q' (intCells lV) (by rfl) (AU.out.alloc _).row ⟨w5.heap.size,0,none⟩ 1 1 [.int .i64 (hd ks)] (by rfl) (by rfl) (iP _ _ _) (by intro u hu;simp at hu;subst hu;rfl) (by omega) (by simp only [maxLen];omega) (by omega) (by simp;omega) (w5.heap.size+1) (by simp) ?_;intro gg cap w6 hown6 vN xC z8;have z4:=((AU.out.ps.blk.alloc (.cells #[.int .i64 (hd ks)] 3)).grown vN (fun e=>aT AU.out.row AU.out.ps.blk (by decide) e.symm)).cell 4;have z6:=(AU.out.ps.blk.alloc (.cells #[.int .i64 (hd ks)] 3)).grown vN (fun e=>aT AU.out.row AU.out.ps.blk (by decide) e.symm);have z5:=z6.frozen 4;clear z6;have z0:=fZ HD0.out AU.out.row vN (by decide);have y0:=z0.cell 0;have y1:=z0.cell 1;have y2:=z0.cell 2;clear z0)
        | (go_simp;(first | go_at_call 182 | go_at_call 183 | go_at_call 184 | go_at_call 185 | go_at_call 186 | go_at_call 187 | go_at_call 188);refine (OE hF _ n _ k' xs' eO _ HR4.out.ps.drew (by omega) hn' HW.out HX.out).mono ?_;rintro e w5⟨rfl,ext5,Fu,RO⟩;have jX:=hid RO;have AU:=hid (HR4.out.drew.at_ RO);have c4:=AU.out.ps.blk.cell 4;have f4:=AU.out.ps.blk.frozen 4;have d0:=RO.blk HR4.out.ps.drew E8.out.drew (by decide) (by decide);have dc0:=d0.cell 0;have dc1:=d0.cell 1;have dc2:=d0.cell 2;have HD0:=hid d0;clear d0;have Z4:=AU.out.ps.lt;clear RO)))
      all_goals
       have HMO:=hid (HR4.out.more (a:=hd ks) jX.out vN xC hown6 Ev.out);have Lu:=hid HMO.out.1;have dA:=hid (tO.out.trans HMO.out.2.1);have HM6:=hid HMO.out.2.2;clear HMO hown6 vN xC z8;have hl5:=jX.out.len;have rC:=hid jX.out.ns;clear jX;rcases dO Jf.out with ⟨D9,ZP⟩ | ⟨D9,rfl⟩
       rotate_left
       ·have Qk:=hid D9;clear D9;go_wp2_with fail;refine (gQ g _ l en _ hF [59] (.inr (by decide +kernel)) _ k1 _ _ Lu.out.ps go2 Qk.out).mono ?_;rintro e w7⟨rfl,nI⟩;unfold aI;go_wp2_with fail;exact⟨rfl,Gf.bad rfl (dA.out.trans (nI.mono (aaK Lu.out.ps.lt)))⟩
       have hlt7:=aP D9 (by simp);have Qk:=hid D9;clear D9;have HR7:=hid ZP;clear ZP;go_wp2_with fail;refine (eZ g _ l en _ hF [59] (.inr (by decide +kernel)) _ k1 _ _ Lu.out.ps go2 Qk.out).mono ?_;rintro e w7⟨rfl,p7,m7⟩;have HRZ:=hid (Lu.out.step p7 m7);have HMZ:=hid ((m7.block _ (aaG.1 HM6.out).1 (Lu.out.ps.jd HM6.out).1 (Lu.out.ps.jd HM6.out).2).trans HM6.out);have HBZ:=hid (dA.out.trans (Lu.out.ps.low m7));clear p7 m7;go_wp2_with fail
       refine⟨⟨f',k1+1,q'+1,xs' ++ ext5,Fu,_,lV ++ [hd ks],by omega,by rw [hl5];omega,by omega,HRZ,HMZ,hid (by rw [rC.out];exact GO.out.wf),hid (by rw [rC.out];exact HR7.out),HBZ⟩,?_⟩
       rw [Lp.out,HRZ.out.ps.nG];omega
end
end Go.Proofs.YthepmkjggfijoaaGreatDoor
namespace Go.Proofs.YthepmkjggfijoaaGreatDoor
open Go.RowKit Mist
theorem Ro (a b c:Value)(w:World) :
  CallsD Tryz.prog 92 #[a,b,c] .returning w fun e u' w'=>e=.returned (.tuple #[])∧u'=.returning∧w'=w:=by
 refine callsD_of_wpS Tryz.func92 rfl fun c₀ cs hu=>?_
 apply wpS_seq
 apply wpS_region
 simp [wpOpsS,go_sem,recoverD,hu,Tryz.ntmps92,Exit.thenS]
 refine wpS_of_wp ?_;go_wp2;cases c₀
 simp_all [bodyPostS,results,Tryz.f92]
theorem caught (w:World)(bt ba be:Nat)(x y z u:Value)(at_:Int)(ht:aC w bt 26 #[x,y])(ha:aC w ba 3 #[z])(he:aC w be 27 #[u])(h1:bt < ba)(h2:ba < be) :
  aC ((((w.setCell ⟨bt,0,none⟩ (.slice none 0 0)).setCell ⟨bt,1,none⟩ (.slice none 0 0)).setCell ⟨ba,0,none⟩ (.int .i64 at_)).setCell ⟨be,0,none⟩ (.int .i64 4)) bt 26 #[.slice none 0 0,.slice none 0 0] ∧
  aC ((((w.setCell ⟨bt,0,none⟩ (.slice none 0 0)).setCell ⟨bt,1,none⟩ (.slice none 0 0)).setCell ⟨ba,0,none⟩ (.int .i64 at_)).setCell ⟨be,0,none⟩ (.int .i64 4)) ba 3 #[.int .i64 at_] ∧
  aC ((((w.setCell ⟨bt,0,none⟩ (.slice none 0 0)).setCell ⟨bt,1,none⟩ (.slice none 0 0)).setCell ⟨ba,0,none⟩ (.int .i64 at_)).setCell ⟨be,0,none⟩ (.int .i64 4)) be 27 #[.int .i64 4] ∧
  Below bt w ((((w.setCell ⟨bt,0,none⟩ (.slice none 0 0)).setCell ⟨bt,1,none⟩ (.slice none 0 0)).setCell ⟨ba,0,none⟩ (.int .i64 at_)).setCell ⟨be,0,none⟩ (.int .i64 4)):=by
 have t1:=(ht.d_ 0 (.slice none 0 0)).d_ 1 (.slice none 0 0);have t2:=(t1.far (p:=⟨ba,0,none⟩) (by simp;omega) (.int .i64 at_)).far (p:=⟨be,0,none⟩) (by simp;omega) (.int .i64 4);have a1:=(ha.far (p:=⟨bt,0,none⟩) (by simp;omega) (.slice none 0 0)).far (p:=⟨bt,1,none⟩) (by simp;omega) (.slice none 0 0);have a2:=(a1.d_ 0 (.int .i64 at_)).far (p:=⟨be,0,none⟩) (by simp;omega) (.int .i64 4);have e1:=(he.far (p:=⟨bt,0,none⟩) (by simp;omega) (.slice none 0 0)).far (p:=⟨bt,1,none⟩) (by simp;omega) (.slice none 0 0);have e2:=(e1.far (p:=⟨ba,0,none⟩) (by simp;omega) (.int .i64 at_)).d_ 0 (.int .i64 4);exact⟨by simpa using t2,by simpa using a2,by simpa using e2,dx (dx (dx (dx (Below.refl _ _) (aaJ _)) (aaJ _)) (by omega)) (by omega)⟩
theorem wrong_is (at_:Int)(w:World):(Instr.typeAssert (.iface 109 (.agg #[.int .i64 at_])) 20 109 true).run Tryz.prog w=.ok (.tuple #[.agg #[.int .i64 at_],.bool true]) w:=by kernel_rfl
theorem NP (bt ba be:Nat)(x y z u:Value)(at_:Int)(older:List PanicEntry)(w:World)(ht:aC w bt 26 #[x,y])(ha:aC w ba 3 #[z])(he:aC w be 27 #[u])(h1:bt < ba)(h2:ba < be) :
  CallsD Tryz.prog 92 #[.pointer (some ⟨bt,0,none⟩),.pointer (some ⟨ba,0,none⟩),.pointer (some ⟨be,0,none⟩)] (.panicking ({ v:=.iface 109 (.agg #[.int .i64 at_]),recovered:=false } :: older)) w fun e u' w' =>
   e=.returned (.tuple #[])∧u'=.panicking ({ v:=.iface 109 (.agg #[.int .i64 at_]),recovered:=true } :: older)∧aC w' bt 26 #[.slice none 0 0,.slice none 0 0]∧aC w' ba 3 #[.int .i64 at_]∧aC w' be 27 #[.int .i64 4]∧Below bt w w':=by
 have hta:=wrong_is at_;have t0:=ht.cell 0;have t1:=ht.cell 1;have a0:=ha.cell 0;have e0:=he.cell 0;have ft0:=ht.frozen 0;have ft1:=ht.frozen 1;have fa0:=ha.frozen 0;have fe0:=he.frozen 0;refine callsD_of_wpS Tryz.func92 rfl fun c₀ cs hu=>?_
 apply wpS_seq
 apply wpS_region
 simp [wpOpsS,go_sem,recoverD,hu,Tryz.ntmps92,Exit.thenS]
 refine wpS_of_wp ?_;have hl:=he.lt;have hl2:=ht.lt;have hl3:=ha.lt;go_wp2;go_region
 all_goals
  go_wp2;have hc:=caught w bt ba be x y z u at_ ht ha he h1 h2
  refine⟨rfl,_,rfl,.tuple #[],by simp [results,Tryz.f92,go_sem],rfl,rfl,?_,?_,?_,?_⟩
  ·exact (hc.1.alloc _).drew
  ·exact (hc.2.1.alloc _).drew
  ·exact (hc.2.2.1.alloc _).drew
  ·exact Below.drew (ah hc.2.2.2 (aaK hc.1.lt))
end Go.Proofs.YthepmkjggfijoaaGreatDoor
