/-
  A part of the proof.
-/
import Derived.Test.YtajfdjikimiapaaGreatDoorS03
import Derived.Test.YtajfdjikimiapaaGreatDoorS11
set_option linter.all false
set_option maxRecDepth 100000
set_option maxHeartbeats 4000000
namespace Go.Proofs.YtajfdjikimiapaaGreatDoor
section
open Go.RowKit Mist
attribute [local go_sem] au aN aV aM aG
section
variable {g:Nat} {tv:Value} {l:List Tok} {en:Int} {iv:Value} (hF:PF l)
include hF
theorem Xx (m:Nat)(w:World)(k:Nat)(xs:List NV)(nv:Value)(r:kF)(h:PS g tv l en iv w (k+1) xs nv)(hk:k+1≤l.length)(hn:xs.length≤k)(hw:Wf (aj xs))(hr:iq l en m .ask k (aj xs)=some r) :
  Calls Tryz.prog 171 #[.pointer (some ⟨g,0,none⟩),.agg #[.int .u8 (tg l k).kind,.string (aU (tx l k)),.int .i64 (pl l en k)]] w (bG g tv l en iv w xs nv r):=by
 have C:=fun (f:Nat) (_:f≤m) (j:Job) (hj:isFn j=true)=>ni (g:=g) (tv:=tv) (en:=en) (iv:=iv) hF f j hj
 have CL:=fun (f:Nat) (_:f≤m) (e:El)=>ng (g:=g) (tv:=tv) (en:=en) (iv:=iv) hF f e
 have H:=O h;clear h;have mI:=O ((At.refl H.o).alloc (.cells #[.int .u8 (tg l k).kind,.string (aU (tx l k)),.int .i64 (pl l en k)] 131));have uL:=O (aZ.new w 131 #[.int .u8 (tg l k).kind,.string (aU (tx l k)),.int .i64 (pl l en k)]);have c:=O hw;clear hw;have hn0:(aj xs).length≤k:=by rw [bW];exact hn
 have d:=hF.len;unfold iq at hr
 have pF:=O hr;clear hr;go_in
 obtain⟨i0,hi0,hz0,hz1,hz2⟩:=info_parts mE;have FJ:=pF.o;unfold PX at FJ;have afy:=O FJ;clear FJ
 go_wp2_with fail;refine (KO _).mono ?_;rintro e w2⟨rfl,rfl⟩;have J:=heap_alloc_new (w.alloc (.cells #[.int .u8 (tg l k).kind,.string (aU (tx l k)),.int .i64 (pl l en k)] 131)) (.map (iJ AP 0).toArray 8);rw [show (w.alloc (.cells #[.int .u8 (tg l k).kind,.string (aU (tx l k)),.int .i64 (pl l en k)] 131)).heap.size=w.heap.size+1 by simp] at J;have HM:=O J;clear J
 have dP:=O (uL.o.alloc (.map (iJ AP 0).toArray 8));clear uL;have D:=O (mI.o.alloc (.map (iJ AP 0).toArray 8));clear mI;go_wp2_with fail;refine (gY g tv l en iv _ (k+1) _ _ D.o.ps (by omega) d).mono ?_;rintro e w3⟨rfl,x⟩;have rW:=O ((x.block _ (ais.1 HM.o).1).trans HM.o);have iF:=O (dP.o.below x dP.o.lt);clear dP;have G:=O (D.o.below x);clear D;clear x;have hlk:=XR _ _ _ rW.o (tx l (k+1));have tf1:=nA;obtain⟨Q,hQ⟩:∃ Q,Q=nD (tx l (k+1)):=⟨_,rfl⟩;rw [← hQ] at hlk
 have U3:=afy.o;rw [← hQ] at U3
 have hQ8:Q≤8:=by rw [hQ];unfold nD;(repeat' split) <;> omega
 have hQt:Q ≠ 0→k+1 < l.length:=fun h=>dM (s:=tx l (k+1)) rfl (fun e9=>h (by rw [hQ,e9];rfl))
 clear hQ;rcases fH U3 with ⟨F,NK⟩ | ⟨F,NK⟩
 all_goals clear U3
 ·skip;obtain rfl:kF.bad (k+1)=r:=aiB NK;subst F;have hq9:(((0:Nat):Int) == 0)=true:=rfl;go_wp2_with fail;refine (qI g tv l en iv _ (k+1) _ _ G.o.ps (by omega) d).mono ?_;rintro e wq⟨rfl,hbq⟩
  (try unfold aX)
  go_wp2_with fail;exact⟨rfl,bG.bad rfl ((H.o.low G.o.mv).trans (hbq.mono (aiw G.o.ps.lt)))⟩
 ·skip;have aha:=hQt F;have HRQ:=O NK;clear NK;have hq9:((Q:Int) == 0)=false:=by simp;omega
  go_wp2_with fail;refine (qV g tv l en iv _ (k+1) _ _ G.o.ps (by omega) d).mono ?_;rintro e w4⟨rfl,p4,m4⟩;clear hlk hq9;have A:=O (G.o.ps.bH m4 iF.o);clear iF;have a:=O (G.o.step p4 m4);clear G;clear p4 m4;rcases fH HRQ.o with ⟨G_,N⟩ | ⟨G_,N⟩
  ·skip;subst G_;have B:=O N;clear N;obtain rfl:=dN B.o;have eB:=A.o.cell 0;have eG:=A.o.cell 1;have eH:=A.o.cell 2;have sl0:=A.o.lt;go_wp2_with fail;refine (fV g tv l en iv (aj xs).length 46 _ _ _ [] 7 _ [] _ ((k+1)+1) _ _ a.o.ps (gX.none_ _) a.o.len (by omega)).mono ?_;rintro e w5⟨rfl,nv5,p5,m5⟩;have qE:=O (a.o.add p5 m5 (by intro b t;simp [Value.ownBlock] at t));clear p5 m5;go_wp2_with fail;go_ret;exact bG.ok rfl qE.o
  ·skip;rcases fH N with ⟨aef,U⟩ | ⟨aef,U⟩
   all_goals clear N
   ·skip;subst aef;have B:=O U;clear U;rcases dO B.o with ⟨ks6,k6,ns6,i,Xj⟩ | ⟨kb6,i,rfl⟩
    rotate_left
    ·have ZU:=O i;clear i;go_wp2_with fail;refine (CL m (aiv _) .expr _ ((k+1)+1) _ _ _ a.o.ps (by omega) (by rw [a.o.len];omega) (by rw [a.o.ns];exact c.o) (by rw [a.o.ns];exact ZU.o)).mono ?_;rintro e w6⟨rfl,hb6⟩
     (try unfold aX)
     go_wp2_with fail;exact⟨rfl,bG.bad rfl ((H.o.low a.o.mv).trans hb6)⟩
    have ZU:=O i;clear i;have Bg:=O Xj;clear Xj B;go_wp2_with fail;refine (CL m (aiv _) .expr _ ((k+1)+1) _ _ _ a.o.ps (by omega) (by rw [a.o.len];omega) (by rw [a.o.ns];exact c.o) (by rw [a.o.ns];exact ZU.o)).mono ?_;rintro e w6⟨v6,afI,nv6,rfl,K,I,hd6⟩;have L:=O (iC (base':=w.heap.size) K (fun b t=>Nat.le_trans a.o.mv.size (K.lt b t).1));clear K hd6;have T:=O (dU ZU.o (by omega) c.o (Ids.nil _) (by simp));have gl6:=T.o.lo;have gf6:=T.o.few;have ge6:=T.o.le;have gn6:=T.o.len;simp only [Job.reads] at gl6
    have nZ:=O (I.blk a.o.ps A.o (by decide) (by decide));clear A;have ZI:=O T.o.wf;have qX:=O (a.o.trans I);clear a;clear I;obtain rfl:=dN Bg.o;have eB:=nZ.o.cell 0;have eG:=nZ.o.cell 1;have eH:=nZ.o.cell 2;have sl0:=nZ.o.lt;go_wp2_with fail;refine (fV g tv l en iv ns6.length 46 _ _ _ [] 8 _ ks6 _ k6 _ _ qX.o.ps (iC L.o (fun _ _=>aix _)) qX.o.len (by omega)).mono ?_;rintro e w7⟨rfl,nv7,p7,m7⟩;have qE:=O (qX.o.add p7 m7 (fun b t=>(L.o.lt b t).1));clear p7 m7;go_wp2_with fail;go_ret;exact bG.ok rfl qE.o
   ·skip;have B:=O U;clear U;have u7:((Q:Int) == 7)=false:=by simp;omega
    have u8:((Q:Int) == 8)=false:=by simp;omega
    have E:=O (show w4.ownsRow w.heap.size 3 1 (.slice none 0 0) 0 (intCells []) from World.ownsRow_nil _ _ _ _);have HQN:=O (show ([]:List Int).length=0 from rfl);have Z:=O (ne_nil (ext:=[]));rcases dO B.o with ⟨V,k8,ns8,P,Qf⟩ | ⟨kb8,P,rfl⟩
    rotate_left
    ·have PO:=O P;clear P;go_wp2_with fail;refine (C m (aiv _) .expr rfl _ ((k+1)+1) _ _ _ a.o.ps (by omega) (by rw [a.o.len];omega) (by rw [a.o.ns];exact c.o) (by rw [a.o.ns];exact PO.o)).mono ?_;rintro e w8⟨rfl,nC⟩
     (try unfold aX)
     go_wp2_with fail;exact⟨rfl,bG.bad rfl ((H.o.low a.o.mv).trans nC)⟩
    have PO:=O P;clear P;have Fb:=O Qf;clear Qf B;go_wp2_with fail;refine (C m (aiv _) .expr rfl _ ((k+1)+1) _ _ _ a.o.ps (by omega) (by rw [a.o.len];omega) (by rw [a.o.ns];exact c.o) (by rw [a.o.ns];exact PO.o)).mono ?_;rintro e w8⟨rfl,aeb,nv8,S⟩;have R:=O (dU PO.o (by omega) c.o (Ids.nil _) (by simp));have gl8:=R.o.lo;have gf8:=R.o.few;have ge8:=R.o.le;have gn8:=R.o.len;simp only [Job.reads] at gl8
    have sJ:=O (S.blk a.o.ps A.o (by decide) (by decide));clear A;have Y:=O (BO Z.o S.fresh (fun b t=>(E.o.lt b t).2));clear Z;have PD:=O (a.o.ps.lI S.mv E.o (by decide) (by decide));clear E;have afC:=O R.o.wf;have yS:=O (a.o.trans S);clear a;clear S
    go_wp2_with (at_builtin
                 refine wpList_append_lies _ rfl (.tmp 19) (.tmp 22) 23 rfl w.heap.size 3 i0 _ 1 8 Tryz.underlying23 hi0 hz0 hz1 hz2 rfl (by decide) _ 0 (intCells []) rfl
                   (PD.o.alloc _) ⟨w8.heap.size,0,none⟩ 1 1 [.int .i64 (hd V)] rfl rfl (h_ _ _ _) (by intro u hu;simp at hu;subst hu;rfl) (by omega) (by simp only [maxLen];omega) (by omega) (by have:=yS.o.mv.size;simp;omega) (w8.heap.size+1) (by simp) ?_
                 intro gg9 X w9 W y aee aga;have n:=kV sJ.o PD.o y (by decide);have ae_:=n.cell 0;have ae':=n.cell 1;have afa:=n.cell 2;have agW:=n.lt)
    have ahl:=O (xC yS.o.ps Y.o aee (0+1) X);clear aee;have mM:=O (kV sJ.o PD.o y (by decide));have vW:=O ((yS.o.alloc (.cells #[.int .i64 (hd V)] 3)).grown H.o PD.o (by decide) y Y.o);have M:=O (show w9.ownsRow w.heap.size 3 1 (.slice (some ⟨gg9,0,none⟩) (0+1) X) (0+1) (intCells ([] ++ [hd V])) by rw [iU];exact W);clear W;have HQ9:=O (show ([] ++ [hd V]).length=0+1 by rw [aiA,HQN.o];rfl);clear y aga;obtain rfl:=dN Fb.o;have eB:=mM.o.cell 0;have eG:=mM.o.cell 1;have eH:=mM.o.cell 2;have sl0:=mM.o.lt;refine (fV g tv l en iv ns8.length 46 _ _ _ [] (Q:Int) _ ([] ++ [hd V]) _ k8 _ _ vW.o.ps (XG HQ9.o M.o) vW.o.len (by omega)).mono ?_;rintro e w10⟨rfl,aeT,p10,m10⟩;have qE:=O (vW.o.add p10 m10 (fun b t=>(M.o.lt b t).1));clear p10 m10;go_wp2_with fail;go_ret;exact bG.ok rfl qE.o
end
end
section
open Go.RowKit Mist
section
variable {g:Nat} {tv:Value} {l:List Tok} {en:Int} {iv:Value} (hF:PF l)
include hF
theorem Kg (i:It)(m:Nat)(w:World)(k:Nat)(xs:List NV)(nv:Value)(r:kF)(h:PS g tv l en iv w (k+1) xs nv)(a:k+1≤l.length)(b:xs.length≤k)(d:Wf (aj xs))(c:iq l en m i k (aj xs)=some r) :
  Calls Tryz.prog (Br i) #[.pointer (some ⟨g,0,none⟩),.agg #[.int .u8 (tg l k).kind,.string (aU (tx l k)),.int .i64 (pl l en k)]] w (bG g tv l en iv w xs nv r):=by
 cases i with
 | choose=>exact Kh hF m w k xs nv r h a b d c
 | record=>exact Ki hF m w k xs nv r h a b d c
 | Ny=>exact SC hF m w k xs nv r h a b d c
 | Oj=>exact SF hF m w k xs nv r h a b d c
 | observe=>exact Hr hF m w k xs nv r h a b d c
 | rO=>exact Hu hF m w k xs nv r h a b d c
 | ask=>exact Xx hF m w k xs nv r h a b d c
end
theorem Lx (w:World):(zeroValue 161).run Tryz.prog w=.ok .nilFunc w:=by kernel_rfl
theorem SS (w:World)(m c:Nat)(a:w.heap[m]? = some (.map (iJ wZ 0).toArray c))(x:Bs):(Instr.lookup 157 (.map (some m)) (.string (aU x)) true).run Tryz.prog w=.ok (.tuple #[((Sy x).map fun i=>fv (Br i)).getD .nilFunc,.bool (Sy x).isSome]) w:=by
 have h:=DF 157 161 .nilFunc Tryz.underlying157 w (Lx w) wZ m c a x true;rw [h,Xv];simp
structure PR (g:Nat) (tv:Value) (l:List Tok) (en:Int) (iv:Value) (w:World) (k:Nat) (xs:List NV) (nv:Value) (its:List Int) (q:Nat):Prop where
 ps:PS g tv l en iv w k xs nv
 len:its.length=q
 row:w.ownsRow (g+1) 3 1 iv q (intCells its)
 ne:∀ x ∈ xs,x.2.ownBlock=none∨x.2.ownBlock ≠ iv.ownBlock
 far:∀ x ∈ xs,∀ b,x.2.ownBlock=some b→g < b
section
variable {g:Nat} {tv:Value} {l:List Tok} {en:Int} {iv:Value} {w w1 w2:World} {k k1:Nat} {xs ext:List NV} {nv nV:Value} {its:List Int} {q:Nat}
theorem PR.below (h:PR g tv l en iv w k xs nv its q)(a:Below w.heap.size w w1):PR g tv l en iv w1 k xs nv its q :=
 ⟨h.ps.below a,h.len,own_below h.row a,h.ne,h.far⟩
theorem PR.alloc (h:PR g tv l en iv w k xs nv its q)(o:Obj):PR g tv l en iv (w.alloc o) k xs nv its q:=h.below ((Below.refl _ _).alloc (aiv _) o)
theorem PR.drew (h:PR g tv l en iv w k xs nv its q):PR g tv l en iv w.drew k xs nv its q:=h.below (Below.drew (Below.refl _ _))
theorem PR.step (h:PR g tv l en iv w k xs nv its q)(p:PS g tv l en iv w1 k1 xs nv)(m:Mv g nv.ownBlock w nv.ownBlock w1):PR g tv l en iv w1 k1 xs nv its q :=
 ⟨p,h.len,h.ps.lI m h.row (by decide) (by decide),h.ne,h.far⟩
theorem PR.at_ {e:List Nd}(h:PR g tv l en iv w k xs nv its q)(a:At g tv l en iv w xs nv k1 e w1 ext nV):PR g tv l en iv w1 k1 (xs ++ ext) nV its q :=
 ⟨a.ps,h.len,h.ps.lI a.mv h.row (by decide) (by decide),BO h.ne a.fresh (fun b d=>(h.row.lt b d).2),fun x c b d=>by
  rcases List.mem_append.1 c with c | c
  ·exact h.far x c b d
  ·have:=a.fresh x c b d;have:=h.ps.lt;omega⟩
theorem PR.grown {o:Obj}{a:Int}{f cap:Nat}(h:PR g tv l en iv w k xs nv its q)(t:(w.alloc o).grownBy w2 iv.ownBlock)(j:iv.ownBlock=some f∨f=w.heap.size+1)
  (d:w2.ownsRow (g+1) 3 1 (.slice (some ⟨f,0,none⟩) (q+1) cap) (q+1) (intCells its ++ [.int .i64 a])) :
  PR g tv l en (.slice (some ⟨f,0,none⟩) (q+1) cap) (w2.setCell ⟨g,4,none⟩ (.slice (some ⟨f,0,none⟩) (q+1) cap)) k xs nv (its ++ [a]) (q+1):=by
 have p:=(h.ps.alloc o).grown t (fun b i=>by
  have r:=h.row.lt b i
  refine⟨by omega,fun e=>?_,fun x n e=>?_⟩
  ·rcases eT h.row h.ps.own (by decide) with c | c
   ·rw [i] at c;cases c
   ·exact c (i.trans e.symm)
  ·rcases h.ne x n with c | c
   ·rw [e] at c;cases c
   ·exact c (e.trans i.symm))
 have m:Mv g nv.ownBlock w2 nv.ownBlock (w2.setCell ⟨g,4,none⟩ (.slice (some ⟨f,0,none⟩) (q+1) cap)):=Mv.jD p.blk 4 _
 refine⟨⟨(by have:=p.blk.jD 4 (.slice (some ⟨f,0,none⟩) (q+1) cap);simpa using this),ownsRow_setCell_other p.own (bJ p.own p.blk (by decide)) _,fun x n=>p.Oc m (p.kids x n),p.toks.below (p.low m),oq p.env (p.low m)⟩,by rw [aiA,h.len];rfl,?_,xC (xs:=[]) h.ps h.ne j _ _,h.far⟩
 rw [iU];exact ownsRow_setCell_other d (bJ d p.blk (by decide)) _
theorem PR.low {o:Obj}{u:Value}{i:Nat}(h:PR g tv l en iv w k xs nv its q)(c:(w.alloc o).grownBy w2 iv.ownBlock):Below g w (w2.setCell ⟨g,i,none⟩ u) :=
 dS (((Below.refl _ _).alloc (aiw h.ps.lt) o).grown c (by have:=h.ps.lt;simp;omega) (fun b a=>by have:=(h.row.lt b a).1;omega)) (aiv _)
theorem PR.more {r h i:World}{E:List Nd}{o:Obj}{a:Int}{d cap b c:Nat}{n:Array MapEntry}(h4:PR g tv l en iv r k xs nv its q)(t:At g tv l en iv r.drew xs nv k1 E h ext nV)(x:(h.alloc o).grownBy i iv.ownBlock)(u:iv.ownBlock=some d∨d=h.heap.size+1)
  (m:i.ownsRow (g+1) 3 1 (.slice (some ⟨d,0,none⟩) (q+1) cap) (q+1) (intCells its ++ [.int .i64 a])) (F:r.heap[b]? = some (.map n c)) :
  PR g tv l en (.slice (some ⟨d,0,none⟩) (q+1) cap) (i.setCell ⟨g,4,none⟩ (.slice (some ⟨d,0,none⟩) (q+1) cap)) k1 (xs ++ ext) nV (its ++ [a]) (q+1)∧Below g r (i.setCell ⟨g,4,none⟩ (.slice (some ⟨d,0,none⟩) (q+1) cap))∧(i.setCell ⟨g,4,none⟩ (.slice (some ⟨d,0,none⟩) (q+1) cap)).heap[b]? = some (.map n c):=by
 have h5:=h4.drew.at_ t;have f:h.heap[b]? = some (.map n c):=t.map h4.drew.ps F;have j:(h.alloc o).heap[b]? = some (.map n c):=mX f _;have y:b < (h.alloc o).heap.size:=(ais.1 j).1
 refine⟨h5.grown x u m,(((Below.drew (Below.refl _ _)).trans (h4.drew.ps.low t.mv)).trans (h5.low x)),?_⟩
 have A:some b ≠ iv.ownBlock:=by
  intro e;rcases h5.row.2 with ⟨hv,_⟩ | ⟨G,cap,D,hv,_,C,_⟩
  ·rw [hv] at e;simp [Value.ownBlock] at e
  ·rw [hv] at e;simp [Value.ownBlock] at e
   rw [← e,f] at C;cases C
 have B:b ≠ g:=(h5.ps.oQ f).1;exact (Below.heap_setCell i ⟨g,4,none⟩ _ b (by simpa using B)).trans ((x.block b y A).trans j)
end
end
section
open Go.RowKit Mist
attribute [local go_sem] au aN aV aM aG
def Ct (g:Nat)(tv:Value)(l:List Tok)(en:Int)(w:World)(r:kF)(e:Ending)(w':World):Prop :=
 match r with
 | .ok its k ns=>(∃ v,e=.returned v)∧(∃ xs nv iv q,PR g tv l en iv w' k xs nv its q∧aj xs=ns)∧Below g w w'
 | .bad k=>e=aX l en k∧Below g w w'
theorem Ct.bad {g:Nat}{tv:Value}{l:List Tok}{en:Int}{w w1:World}{k:Nat}{e:Ending}(b:e=aX l en k)(a:Below g w w1):Ct g tv l en w (.bad k) e w1:=⟨b,a⟩
section
variable {g:Nat} {tv:Value} {l:List Tok} {en:Int} (hF:PF l)
include hF
theorem KM (n f:Nat)(w:World)(k q:Nat)(xs:List NV)(nv iv:Value)(its:List Int)(r:kF)(h:PR g tv l en iv w k xs nv its q)(hk:k≤l.length)(hn:xs.length≤k)(hq:q≤k)(hw:Wf (aj xs))(hr:prog l en n f k (aj xs) its=some r) :
  Calls Tryz.prog 97 #[.pointer (some ⟨g,0,none⟩)] w (Ct g tv l en w r):=by
 obtain⟨A,c,rfl,hlc,_⟩:=h.ps.toks;obtain⟨i0,hi0,hz0,hz1,hz2⟩:=info_parts mE;have H:=O h;clear h;have HW0:=O hw;clear hw;have Zy:=O hr;clear hr;have B:=hF.len;have hgl:=H.o.ps.lt;go_in
 go_wp2_with fail;refine (SG _).mono ?_;rintro e w1⟨rfl,rfl⟩;have HM0:=O (heap_alloc_new w (.map (iJ wZ 0).toArray 7));have H1:=O (H.o.alloc (.map (iJ wZ 0).toArray 7));have HB0:=O (aF (Below.refl g w) (aiw hgl) (o:=.map (iJ wZ 0).toArray 7));go_wp2_with fail;go_loopw [3] (fun bv wr=>∃ (E b q':Nat) (j:List NV) (l7 Qg:Value) (I:List Int),b≤l.length∧j.length≤b∧q'≤b∧Hid (PR g (.slice A l.length c) l en Qg wr b j l7 I q')∧Hid (wr.heap[w.heap.size]? = some (.map (iJ wZ 0).toArray 7))∧Hid (Wf (aj j))∧Hid (prog l en n E b (aj j) I=some r)∧Hid (Below g w wr)) (fun _ wr=>uT g l.length wr)
 case atStart=>exact⟨f,k,q,xs,nv,iv,its,hk,hn,hq,H1,HM0,HW0,Zy,HB0⟩
 case round =>
  clear HM0 H1 HB0 Zy HW0 hk hn hq;obtain⟨E,b,q',j,l7,Qg,I,hk',hn',hq',N,HM,HW,HP,HB⟩:=hrel
  obtain⟨E,rfl⟩:∃ f0,E=f0+1:=⟨E - 1,by
   rcases Nat.eq_zero_or_pos E with h | h
   ·subst h;have:=HP.o;rw [prog] at this;cases this
   ·omega⟩
  have HMS:=O (N.o.ps.uT (n:=l.length));have c0:=N.o.ps.blk.cell 0;have c2:=N.o.ps.blk.cell 2;have hgr:=N.o.ps.lt;by_cases hkl:b < l.length
  case neg =>
   have y:=O (show r=.ok I b (aj j) by have:=HP.o;rw [prog,if_neg hkl] at this;exact (aiB this).symm);have d1:decide ((b:Int) < (l.length:Int))=false:=aiH (by omega);have d2:decide (b < l.length)=false:=aiH (by omega);go_wp2_with fail;go_quiet (fail)
   go_wp2_with fail;refine bodyPost_ret (v:=.tuple #[]) (by simp [results,Tryz.f97,go_sem]) rfl ?_;rw [y.o];exact⟨⟨_,rfl⟩,⟨_,_,_,_,N.o.below (jJ (Below.refl _ _) _),rfl⟩,jJ HB.o _⟩
  case pos =>
   have UR:=O (show thn (item l en n b (aj j)) (fun a k1 Q=>need l [59] k1 <| prog l en n E (k1+1) Q (I ++ [hd a]))=some r by have:=HP.o;rw [prog,if_pos hkl] at this;exact this);clear HP;have d1:decide ((b:Int) < (l.length:Int))=true:=aiG (by omega);have d2:decide (b < l.length)=true:=aiG (by omega);go_wp2_with fail;go_quiet (fail)
   clear d1 d2 c0 c2;go_wp2_with fail;refine (gY g _ l en Qg _ b _ _ (N.o.below (jJ (Below.refl _ _) _)).ps (by omega) B).mono ?_;rintro e w2⟨rfl,P⟩;have V:=O ((N.o.below (jJ (Below.refl _ _) _)).below P);have X:=HM.o;have hms:w.heap.size < wr.heap.size:=(ais.1 X).1;have rW:=O ((P.block w.heap.size hms).trans X);clear X;have HB2:=O ((jJ HB.o _).trans (P.mono (aiw N.o.ps.lt)));clear P N HM HB;have uU:=O (aZ.new w2 131 #[.int .u8 (tg l b).kind,.string (aU (tx l b)),.int .i64 (pl l en b)]);have m:=O (V.o.alloc (.cells #[.int .u8 (tg l b).kind,.string (aU (tx l b)),.int .i64 (pl l en b)] 131));have E9:=O (mX rW.o (.cells #[.int .u8 (tg l b).kind,.string (aU (tx l b)),.int .i64 (pl l en b)] 131));have J:=O (aF HB2.o (aiw V.o.ps.lt) (o:=(.cells #[.int .u8 (tg l b).kind,.string (aU (tx l b)),.int .i64 (pl l en b)] 131)));have D:=SS _ _ _ E9.o (tx l b);have Y:=uU.o.cell 0;have Z:=uU.o.cell 1;have sc2:=uU.o.cell 2;have slt:=uU.o.lt;clear V rW HB2;rcases hi:Sy (tx l b) with _ | i
   ·rw [hi] at D
    simp only [Option.map_none,Option.getD_none,Option.isSome_none] at D
    have y:=O (show kF.bad b=r by
     have h9:=UR.o;have e9:item l en n b (aj j)=some (.bad b):=by unfold item;split <;> simp [hi]
     rw [e9] at h9;exact aiB h9)
    clear hi;go_wp2_with fail;refine (qI g _ l en Qg _ b _ _ m.o.ps (by omega) B).mono ?_;rintro e wq⟨rfl,W⟩;go_wp2_with fail;rw [← y.o];exact⟨rfl,Ct.bad rfl (J.o.trans (W.mono (aiw m.o.ps.lt)))⟩
   have HI:=O hi;rw [hi] at D
   simp only [Option.map_some,Option.getD_some,Option.isSome_some] at D
   unfold fv at D
   clear hi;by_cases C:(tg l b).kind=3
   case neg =>
    have n3:(((tg l b).kind:Int) != 3)=true:=by simp [bne];omega
    have y:=O (show kF.bad b=r by
     have h9:=UR.o;have e9:item l en n b (aj j)=some (.bad b):=by unfold item;rw [if_neg C]
     rw [e9] at h9;exact aiB h9)
    clear C;go_wp2_with fail;refine (qI g _ l en Qg _ b _ _ m.o.ps (by omega) B).mono ?_;rintro e wq⟨rfl,W⟩;go_wp2_with fail;rw [← y.o];exact⟨rfl,Ct.bad rfl (J.o.trans (W.mono (aiw m.o.ps.lt)))⟩
   case pos =>
    have n3:(((tg l b).kind:Int) != 3)=false:=by rw [C];rfl
    have T:=O (show thn (iq l en n i b (aj j)) (fun a k1 Q=>need l [59] k1 <| prog l en n E (k1+1) Q (I ++ [hd a]))=some r by
     have h9:=UR.o;have e9:item l en n b (aj j)=iq l en n i b (aj j):=by unfold item;rw [if_pos C,HI.o]
     rw [e9] at h9;exact h9)
    have Mr:=O C;clear C UR;go_wp2_with fail;refine (qV g _ l en Qg _ b _ _ m.o.ps (by omega) B).mono ?_;rintro e w4⟨rfl,p4,m4⟩;clear D n3 Y Z sc2 slt;have t:=O (m.o.step p4 m4);have HM4:=O ((m4.block _ (ais.1 E9.o).1 (m.o.ps.oQ E9.o).1 (m.o.ps.oQ E9.o).2).trans E9.o);have mh:=O (J.o.trans (m.o.ps.low m4));have ME:=O (m.o.ps.bH m4 uU.o);clear p4 m4 m E9 J uU;have c4:=t.o.ps.blk.cell 4;have Y:=ME.o.cell 0;have Z:=ME.o.cell 1;have sc2:=ME.o.cell 2;have slt:=ME.o.lt;have hl4:=t.o.ps.lt;rcases hx:iq l en n i b (aj j) with _ | x
    ·have:=T.o;rw [hx] at this;cases this
    have HX:=O hx;clear hx;have U:=O (show thn (some x) (fun a k1 Q=>need l [59] k1 <| prog l en n E (k1+1) Q (I ++ [hd a]))=some r by have:=T.o;rw [HX.o] at this;exact this);clear T
    cases x with
    | bad kb =>
     have y:=O (show kF.bad kb=r from aiB U.o);cases i
     all_goals
      dsimp only [Br]
      go_wp2_with fail;refine wp_region_held_drew (S:=fun w'=>w'.cell? ⟨g,4,none⟩=some Qg∧w'.cell? ⟨w2.heap.size,0,none⟩=some (.int .u8 (tg l b).kind)∧w'.cell? ⟨w2.heap.size,1,none⟩=some (.string (aU (tx l b)))∧w'.cell? ⟨w2.heap.size,2,none⟩=some (.int .i64 (pl l en b))) (by kernel_rfl) ⟨c4,Y,Z,sc2⟩ (fun d=>?_);refine aO 0 rfl d ?_;simp only [Act.put,ail,ain,aio];refine aO 1 rfl d ?_;simp only [Act.put,ail,ain,aio];refine aO 2 rfl d ?_;simp only [Act.put,ail,ain,aio];refine aO 3 rfl d ?_;simp only [Act.put,ail,ain,aio];refine aO 4 rfl d ?_;simp only [Act.put,ail,ain,aio];refine aO 5 rfl d ?_;simp only [Act.put,ail,ain,aio];refine aO 6 rfl d ?_;simp only [Act.put,ail,ain,aio];refine aO 7 rfl d ?_;simp only [Act.put,ail,ain,aio];refine aO 8 rfl d ?_;simp only [Act.put,ail,ain,aio];refine wpAnyH_ready (rs:=[9]) (by kernel_rfl) (by simp) ?_;refine fO (.s (.s (.s (.s (.s (.s (.s (.s (.s .z))))))))) (fun K hK=>?_);go_simp;refine (Kg hF _ n _ b j l7 _ t.o.ps.drew (by omega) hn' HW.o HX.o).mono ?_;rintro e w5⟨rfl,hb5⟩;unfold aX;go_wp2_with fail;rw [← y.o];exact⟨rfl,Ct.bad rfl (mh.o.trans ((Below.drew (Below.refl _ _)).trans hb5))⟩
    | ok ks k1 Q =>
     have GO:=O (SE (by omega) HW.o (show item l en n b (aj j)=some (.ok ks k1 Q) by unfold item;rw [if_pos Mr.o,HI.o];exact HX.o));have go1:=GO.o.lo;have go2:=GO.o.le;have go3:=GO.o.few;rw [bW] at go3
     have Zq:=O (show need l [59] k1 (prog l en n E (k1+1) Q (I ++ [hd ks]))=some r from U.o);clear U;cases i
     all_goals
      dsimp only [Br]
      go_wp2_with fail;have f4:=t.o.ps.blk.frozen 4
      go_region_law ((first
        | (guard_target =~ ((if Region.wanted _ _=true then _ else _:Prop));refine step_append_lies _ (by rfl) _ _ _ (by rfl) (g+1) 3 i0 _ 1 8 Tryz.underlying23 hi0 hz0 hz1 hz2 rfl (by omega) _ q' (intCells I) (by rfl) (G.o.alloc _).row ⟨w5.heap.size,0,none⟩ 1 1 [.int .i64 (hd ks)] (by rfl) (by rfl) (h_ _ _ _) (by intro u hu;simp at hu;subst hu;rfl) (by omega) (by simp only [maxLen];omega) (by omega) (by simp;omega) (w5.heap.size+1) (by simp) ?_;intro gg cap w6 F U1 aay aek;have z4:=((G.o.ps.blk.alloc (.cells #[.int .i64 (hd ks)] 3)).grown U1 (fun e=>bJ G.o.row G.o.ps.blk (by decide) e.symm)).cell 4;have z6:=(G.o.ps.blk.alloc (.cells #[.int .i64 (hd ks)] 3)).grown U1 (fun e=>bJ G.o.row G.o.ps.blk (by decide) e.symm);have z5:=z6.frozen 4;clear z6;have z0:=kV HD0.o G.o.row U1 (by decide);have y0:=z0.cell 0;have y1:=z0.cell 1;have y2:=z0.cell 2;clear z0)
        | (go_simp;(first | go_at_call 165 | go_at_call 166 | go_at_call 167 | go_at_call 168 | go_at_call 169 | go_at_call 170 | go_at_call 171);refine (Kg hF _ n _ b j l7 _ t.o.ps.drew (by omega) hn' HW.o HX.o).mono ?_;rintro e w5⟨rfl,aea,nv5,NC⟩;have lF:=O NC;have G:=O (t.o.drew.at_ NC);have c4:=G.o.ps.blk.cell 4;have f4:=G.o.ps.blk.frozen 4;have d0:=NC.blk t.o.ps.drew ME.o.drew (by decide) (by decide);have dc0:=d0.cell 0;have dc1:=d0.cell 1;have dc2:=d0.cell 2;have HD0:=O d0;clear d0;have hz5:=G.o.ps.lt;clear NC)))
      all_goals
       have M:=O (t.o.more (a:=hd ks) lF.o U1 aay F HM4.o);have R:=O M.o.1;have cZ:=O (mh.o.trans M.o.2.1);have L:=O M.o.2.2;clear M F U1 aay aek;have hl5:=lF.o.len;have E_:=O lF.o.ns;clear lF;rcases dI Zq.o with ⟨FI,hr7⟩ | ⟨FI,rfl⟩
       rotate_left
       ·have UO:=O FI;clear FI;go_wp2_with fail;refine (gy g _ l en _ hF [59] (.inr (by decide +kernel)) _ k1 _ _ R.o.ps go2 UO.o).mono ?_;rintro e w7⟨rfl,om⟩;unfold aX;go_wp2_with fail;exact⟨rfl,Ct.bad rfl (cZ.o.trans (om.mono (aiw R.o.ps.lt)))⟩
       have aes:=dM FI (by simp);have UO:=O FI;clear FI;have UY:=O hr7;clear hr7;go_wp2_with fail;refine (eu g _ l en _ hF [59] (.inr (by decide +kernel)) _ k1 _ _ R.o.ps go2 UO.o).mono ?_;rintro e w7⟨rfl,p7,m7⟩;have HRZ:=O (R.o.step p7 m7);have HMZ:=O ((m7.block _ (ais.1 L.o).1 (R.o.ps.oQ L.o).1 (R.o.ps.oQ L.o).2).trans L.o);have HBZ:=O (cZ.o.trans (R.o.ps.low m7));clear p7 m7;go_wp2_with fail
       refine⟨⟨E,k1+1,q'+1,j ++ aea,nv5,_,I ++ [hd ks],by omega,by rw [hl5];omega,by omega,HRZ,HMZ,O (by rw [E_.o];exact GO.o.wf),O (by rw [E_.o];exact UY.o),HBZ⟩,?_⟩
       rw [HMS.o,HRZ.o.ps.uT];omega
end
end
section
open Go.RowKit Mist
theorem Nc (a b c:Value)(w:World) :
  CallsD Tryz.prog 96 #[a,b,c] .returning w fun e h i=>e=.returned (.tuple #[])∧h=.returning∧i=w:=by
 refine callsD_of_wpS Tryz.func96 rfl fun d cs f=>?_
 apply wpS_seq
 apply wpS_region
 simp [wpOpsS,go_sem,recoverD,f,Tryz.ntmps96,Exit.thenS]
 refine wpS_of_wp ?_;go_wp2;cases d
 simp_all [bodyPostS,results,Tryz.f96]
theorem caught (w:World)(bt a b:Nat)(x y z u:Value)(at_:Int)(j:aZ w bt 25 #[x,y])(h:aZ w a 3 #[z])(i:aZ w b 29 #[u])(h1:bt < a)(h2:a < b) :
  aZ ((((w.setCell ⟨bt,0,none⟩ (.slice none 0 0)).setCell ⟨bt,1,none⟩ (.slice none 0 0)).setCell ⟨a,0,none⟩ (.int .i64 at_)).setCell ⟨b,0,none⟩ (.int .i64 4)) bt 25 #[.slice none 0 0,.slice none 0 0] ∧
  aZ ((((w.setCell ⟨bt,0,none⟩ (.slice none 0 0)).setCell ⟨bt,1,none⟩ (.slice none 0 0)).setCell ⟨a,0,none⟩ (.int .i64 at_)).setCell ⟨b,0,none⟩ (.int .i64 4)) a 3 #[.int .i64 at_] ∧
  aZ ((((w.setCell ⟨bt,0,none⟩ (.slice none 0 0)).setCell ⟨bt,1,none⟩ (.slice none 0 0)).setCell ⟨a,0,none⟩ (.int .i64 at_)).setCell ⟨b,0,none⟩ (.int .i64 4)) b 29 #[.int .i64 4] ∧
  Below bt w ((((w.setCell ⟨bt,0,none⟩ (.slice none 0 0)).setCell ⟨bt,1,none⟩ (.slice none 0 0)).setCell ⟨a,0,none⟩ (.int .i64 at_)).setCell ⟨b,0,none⟩ (.int .i64 4)):=by
 have m:=(j.jD 0 (.slice none 0 0)).jD 1 (.slice none 0 0);have n:=(m.far (p:=⟨a,0,none⟩) (by simp;omega) (.int .i64 at_)).far (p:=⟨b,0,none⟩) (by simp;omega) (.int .i64 4);have c:=(h.far (p:=⟨bt,0,none⟩) (by simp;omega) (.slice none 0 0)).far (p:=⟨bt,1,none⟩) (by simp;omega) (.slice none 0 0);have d:=(c.jD 0 (.int .i64 at_)).far (p:=⟨b,0,none⟩) (by simp;omega) (.int .i64 4);have e:=(i.far (p:=⟨bt,0,none⟩) (by simp;omega) (.slice none 0 0)).far (p:=⟨bt,1,none⟩) (by simp;omega) (.slice none 0 0);have f:=(e.far (p:=⟨a,0,none⟩) (by simp;omega) (.int .i64 at_)).jD 0 (.int .i64 4);exact⟨by simpa using n,by simpa using d,by simpa using f,dS (dS (dS (dS (Below.refl _ _) (aiv _)) (aiv _)) (by omega)) (by omega)⟩
theorem Y8 (at_:Int)(w:World):(Instr.typeAssert (.iface 136 (.agg #[.int .i64 at_])) 20 136 true).run Tryz.prog w=.ok (.tuple #[.agg #[.int .i64 at_],.bool true]) w:=by kernel_rfl
theorem Jz (bt b d:Nat)(x y z u:Value)(at_:Int)(a:List PanicEntry)(w:World)(c:aZ w bt 25 #[x,y])(h:aZ w b 3 #[z])(i:aZ w d 29 #[u])(h1:bt < b)(h2:b < d) :
  CallsD Tryz.prog 96 #[.pointer (some ⟨bt,0,none⟩),.pointer (some ⟨b,0,none⟩),.pointer (some ⟨d,0,none⟩)] (.panicking ({ v:=.iface 136 (.agg #[.int .i64 at_]),recovered:=false } :: a)) w fun e D j =>
   e=.returned (.tuple #[])∧D=.panicking ({ v:=.iface 136 (.agg #[.int .i64 at_]),recovered:=true } :: a)∧aZ j bt 25 #[.slice none 0 0,.slice none 0 0]∧aZ j b 3 #[.int .i64 at_]∧aZ j d 29 #[.int .i64 4]∧Below bt w j:=by
 have E:=Y8 at_;have I:=c.cell 0;have J:=c.cell 1;have F:=h.cell 0;have G:=i.cell 0;have r:=c.frozen 0;have t:=c.frozen 1;have n:=h.frozen 0;have o:=i.frozen 0;refine callsD_of_wpS Tryz.func96 rfl fun m cs C=>?_
 apply wpS_seq
 apply wpS_region
 simp [wpOpsS,go_sem,recoverD,C,Tryz.ntmps96,Exit.thenS]
 refine wpS_of_wp ?_;have H:=i.lt;have A:=c.lt;have B:=h.lt;go_wp2;go_region
 all_goals
  go_wp2;have f:=caught w bt b d x y z u at_ c h i h1 h2
  refine⟨rfl,_,rfl,.tuple #[],by simp [results,Tryz.f96,go_sem],rfl,rfl,?_,?_,?_,?_⟩
  ·exact (f.1.alloc _).drew
  ·exact (f.2.1.alloc _).drew
  ·exact (f.2.2.1.alloc _).drew
  ·exact Below.drew (aF f.2.2.2 (aiw f.1.lt))
end
section
open Go.RowKit Mist
attribute [local go_sem] au aN aV aM aG
theorem je {w:World}{base e s n b i:Nat}{v u:Value}{a:List Value}(h:w.ownsRow base e s v n a)(d:b < base):(w.setCell ⟨b,i,none⟩ u).ownsRow base e s v n a :=
 ownsRow_setCell_other h (fun c=>by have:=(h.lt b c).1;omega) u
theorem vL {w:World}{base base' e s n:Nat}{v:Value}{a:List Value}(h:w.ownsRow base e s v n a)(c:base'≤base):w.ownsRow base' e s v n a:=iC h (fun k b=>by have:=(h.lt k b).1;omega)
structure qA (g:Nat) (w:World) (v:Value) (xs:List NV) (its:List Int):Prop where
 ex:∃ nv iv q,v=.agg #[nv,iv]∧w.ownsRow g 39 5 nv xs.length (jH xs)∧its.length=q∧w.ownsRow (g+1) 3 1 iv q (intCells its)
 kids:∀ x ∈ xs,w.ownsRow (g+1) 3 1 x.2 x.1.kids.length (intCells x.1.kids)
def Ri (l:List Tok)(en:Int)(w:World)(r:kF)(e:Ending)(w':World):Prop :=
 match r with
 | .ok its _ ns=>∃ v xs,e=.returned (.tuple #[v,.int .i64 0,.int .i64 0])∧aj xs=ns∧qA w.heap.size w' v xs its∧Below w.heap.size w w'
 | .bad k=>e=.returned (.tuple #[.agg #[.slice none 0 0,.slice none 0 0],.int .i64 (pl l en k),.int .i64 4])∧Below w.heap.size w w'
theorem abo {w a:World}{tv:Value}{l:List Tok}{g:Nat}(h:nS w tv l)(b:Below w.heap.size w a)(e:w.heap.size≤g):Cv a g tv l:=by
 obtain⟨A,c,rfl,d,f⟩:=h;exact⟨A,c,rfl,d,(f.below b).more e⟩
section
variable {tv:Value} {l:List Tok} {en:Int} (hF:PF l)
include hF
theorem adh {w w1:World}(h:nS w tv l)(d:Env w)(b:Below w.heap.size w w1):PR w1.heap.size tv l en (.slice none 0 0) (w1.alloc (.cells #[tv,.int .i64 en,.int .i64 0,.slice none 0 0,.slice none 0 0] 134)) 0 [] (.slice none 0 0) [] 0:=by
 have h2:Below w.heap.size w (w1.alloc (.cells #[tv,.int .i64 en,.int .i64 0,.slice none 0 0,.slice none 0 0] 134)):=aF b b.size;obtain⟨B,f,d⟩:=d
 refine⟨⟨aZ.new w1 _ _,World.ownsRow_nil _ _ _ _,(fun x a=>nomatch a),abo h h2 b.size,?_⟩,rfl,World.ownsRow_nil _ _ _ _,(fun x a=>nomatch a),(fun x a=>nomatch a)⟩
 intro e c;exact d e ((h2.mono f).trans (c.mono (Nat.le_trans f b.size)))
theorem Tn (n f:Nat)(w:World)(r:kF)(hT:nS w tv l)(Y:Env w)(hr:prog l en n f 0 [] []=some r) :
  Calls Tryz.prog 48 #[tv,.int .i64 en] w (Ri l en w r):=by
 have hmf:∀ (X:Fn) (first cap:Array Value) (w:World),(Instr.makeFunc X first cap).run Tryz.prog w=.ok (.func X first cap) w:=fun _ _ _ _=>rfl
 obtain⟨A,c,rfl,F,H⟩:=hT;have HT:=O (show nS w (.slice A l.length c) l from ⟨A,c,rfl,F,H⟩);clear H F;have HE:=O Y;clear Y;have HR:=O hr;clear hr;go_enter_defers Tryz.func48,Tryz.ntmps48
 have I:(w.alloc (.cells #[.slice none 0 0,.slice none 0 0] 25)).heap.size=w.heap.size+1:=by simp
 have J:((w.alloc (.cells #[.slice none 0 0,.slice none 0 0] 25)).alloc (.cells #[.int .i64 0] 3)).heap.size=w.heap.size+1+1:=by simp
 have K:(((w.alloc (.cells #[.slice none 0 0,.slice none 0 0] 25)).alloc (.cells #[.int .i64 0] 3)).alloc (.cells #[.int .i64 0] 29)).heap.size=w.heap.size+1+1+1:=by simp
 have a:=adh hF (en:=en) HT.o HE.o (w1:=(((w.alloc (.cells #[.slice none 0 0,.slice none 0 0] 25)).alloc (.cells #[.int .i64 0] 3)).alloc (.cells #[.int .i64 0] 29))) (aF (aF (aF (Below.refl _ _) (aiv _)) (by simp)) (by simp;omega));rw [K] at a
 have E:=(((aZ.new w 25 #[.slice none 0 0,.slice none 0 0]).alloc (.cells #[.int .i64 0] 3)).alloc (.cells #[.int .i64 0] 29)).alloc (.cells #[.slice A l.length c,.int .i64 en,.int .i64 0,.slice none 0 0,.slice none 0 0] 134);have m:=((aZ.new (w.alloc (.cells #[.slice none 0 0,.slice none 0 0] 25)) 3 #[.int .i64 0]).alloc (.cells #[.int .i64 0] 29)).alloc (.cells #[.slice A l.length c,.int .i64 en,.int .i64 0,.slice none 0 0,.slice none 0 0] 134);rw [I] at m
 have t:=(aZ.new ((w.alloc (.cells #[.slice none 0 0,.slice none 0 0] 25)).alloc (.cells #[.int .i64 0] 3)) 29 #[.int .i64 0]).alloc (.cells #[.slice A l.length c,.int .i64 en,.int .i64 0,.slice none 0 0,.slice none 0 0] 134);rw [J] at t
 have W:=O (aF (aF (aF (aF (Below.refl w.heap.size w) (aiv _) (o:=(.cells #[.slice none 0 0,.slice none 0 0] 25))) (by simp) (o:=(.cells #[.int .i64 0] 3))) (by simp;omega) (o:=(.cells #[.int .i64 0] 29))) (by simp;omega) (o:=(.cells #[.slice A l.length c,.int .i64 en,.int .i64 0,.slice none 0 0,.slice none 0 0] 134)));have Q9:=O a;clear a;have B:=O E;clear E;have U:=O m;clear m;have V:=O t;clear t;clear I J K;go_wp2_with fail;refine (KM hF n f _ 0 0 [] _ _ [] r Q9.o (aix _) (aiv _) (aiv _) (fun i nd h=>by simp [aj] at h) HR.o).mono ?_;intro e w5 hp
 cases r with
 | bad kb =>
  obtain⟨rfl,j⟩:=hp;have d:=B.o.below j (by omega);have C:=U.o.below j (by omega);have L:=V.o.below j (by omega);have Q:=O j;clear j;unfold aX;go_wp2_with fail;refine leaves_cons (f:=96) (args:=#[.pointer (some ⟨w.heap.size,0,none⟩),.pointer (some ⟨w.heap.size+1,0,none⟩),.pointer (some ⟨w.heap.size+1+1,0,none⟩)]) (by simp) (by simp [go_sem]) ?_;refine (Jz w.heap.size (w.heap.size+1) (w.heap.size+1+1) _ _ _ _ (pl l en kb) [] _ d C L (by omega) (by omega)).mono ?_;rintro e u' w6 ⟨rfl,rfl,T,Z,he,D⟩;have k0:=T.cell 0;have k1:=T.cell 1;have k2:=Z.cell 0;have k3:=he.cell 0;have P:=O (W.o.trans ((Q.o.mono (by omega)).trans D));clear T Z he D d C L;simp [Leaves,settle,results,Tryz.f48,go_sem,k0,k1,k2,k3]
  exact⟨rfl,P.o⟩
 | ok its k1 dG =>
  obtain⟨⟨v,rfl⟩,⟨xs,nv,iv,q,a,G⟩,j⟩:=hp;obtain⟨N,S,rfl⟩:=dh a.ps.own;obtain⟨M,R,rfl⟩:=dh a.row;have d:=B.o.below j (by omega);have C:=U.o.below j (by omega);have L:=V.o.below j (by omega);have Q:=O j;clear j;have y:=O a;clear a;have E_:=O G;clear G;have g3:=y.o.ps.blk.cell 3;have g4:=y.o.ps.blk.cell 4;have t0:=d.cell 0;have t1:=d.cell 1;have a0:=C.cell 0;have e0:=L.cell 0;have ft0:=d.frozen 0;have ft1:=d.frozen 1;have fa0:=C.frozen 0;have fe0:=L.frozen 0;go_wp2_with fail;refine leaves_cons (f:=96) (args:=#[.pointer (some ⟨w.heap.size,0,none⟩),.pointer (some ⟨w.heap.size+1,0,none⟩),.pointer (some ⟨w.heap.size+1+1,0,none⟩)]) (by simp) (by simp [go_sem]) ?_;refine (Nc _ _ _ _).mono ?_;rintro e u' w6 ⟨rfl,rfl,rfl⟩;simp [Leaves,settle,results,Tryz.f48,go_sem,t0,t1,a0,e0]
  have mH:=O (W.o.trans (Q.o.mono (by omega)));have rn:=je (u:=.int .i64 0) (i:=0) (b:=w.heap.size+1+1) (je (u:=.int .i64 0) (i:=0) (b:=w.heap.size+1) (je (u:=.slice M q R) (i:=1) (b:=w.heap.size) (je (u:=.slice N xs.length S) (i:=0) (b:=w.heap.size) y.o.ps.own (by omega)) (by omega)) (by omega)) (by omega);have ri:=je (u:=.int .i64 0) (i:=0) (b:=w.heap.size+1+1) (je (u:=.int .i64 0) (i:=0) (b:=w.heap.size+1) (je (u:=.slice M q R) (i:=1) (b:=w.heap.size) (je (u:=.slice N xs.length S) (i:=0) (b:=w.heap.size) y.o.row (by omega)) (by omega)) (by omega)) (by omega)
  refine⟨_,xs,rfl,E_.o,⟨⟨_,_,q,rfl,vL rn (by omega),y.o.len,vL ri (by omega)⟩,fun x hx=>?_⟩,dS (dS (dS (dS mH.o (aiv _)) (aiv _)) (by omega)) (by omega)⟩
  have rk:=iC (base':=w.heap.size+1+1+1) (y.o.ps.kids x hx) (fun b j=>aiw (y.o.far x hx b j));have rk2:=je (u:=.int .i64 0) (i:=0) (b:=w.heap.size+1+1) (je (u:=.int .i64 0) (i:=0) (b:=w.heap.size+1) (je (u:=.slice M q R) (i:=1) (b:=w.heap.size) (je (u:=.slice N xs.length S) (i:=0) (b:=w.heap.size) rk (by omega)) (by omega)) (by omega)) (by omega);exact vL rk2 (by omega)
end
end
section
open Go.RowKit Mist
theorem qH (b o n:Nat):(⟨b,o,none⟩:Addr).add n=⟨b,o+n,none⟩:=by
 unfold Addr.add;split
 ·rename_i h;rw [h];rfl
 ·rfl
theorem dJ (n lo hi:Int)(r:Bool)(c:Mist.within n lo hi=r)(w:World):Calls Tryz.prog 149 #[.int .i64 n,.int .i64 lo,.int .i64 hi] w fun e h=>e=.returned (.bool r)∧w=h:=by
 have b:=O c;clear c;by_cases h1:lo≤n
 ·have d:decide (lo≤n)=true:=aiG h1;by_cases h2:n≤hi
  ·have f:decide (n≤hi)=true:=aiG h2;have a:=O (show r=true by rw [← b.o];simp [Mist.within,h1,h2]);go_in
   go_wp2;go_ret;exact⟨bD a.o.symm,rfl⟩
  ·have f:decide (n≤hi)=false:=aiH h2;have a:=O (show r=false by rw [← b.o];simp [Mist.within,h2]);go_in
   go_wp2;go_ret;exact⟨bD a.o.symm,rfl⟩
 ·have d:decide (lo≤n)=false:=aiH h1;have a:=O (show r=false by rw [← b.o];simp [Mist.within,h1]);go_in
  go_wp2;go_ret;exact⟨bD a.o.symm,rfl⟩
theorem aaL (k:Nat)(r:Bool)(c:gF k=r)(w:World):Calls Tryz.prog 183 #[.int .u8 k] w fun e h=>e=.returned (.bool r)∧w=h:=by
 have b:=O c;clear c;by_cases h1:30≤k
 ·have d:decide ((30:Int)≤(k:Int))=true:=aiG (by omega);by_cases h2:k≤33
  ·have f:decide ((k:Int)≤(33:Int))=true:=aiG (by omega);have a:=O (show r=true by rw [← b.o];simp [gF,h1,h2]);go_in
   go_wp2;go_ret;exact⟨bD a.o.symm,rfl⟩
  ·have f:decide ((k:Int)≤(33:Int))=false:=aiH (by omega);have a:=O (show r=false by rw [← b.o];simp [gF,h2]);go_in
   go_wp2;go_ret;exact⟨bD a.o.symm,rfl⟩
 ·have d:decide ((30:Int)≤(k:Int))=false:=aiH (by omega);have a:=O (show r=false by rw [← b.o];simp [gF,h1]);go_in
  go_wp2;go_ret;exact⟨bD a.o.symm,rfl⟩
theorem aaF (k:Nat)(r:Bool)(c:dB k=r)(w:World):Calls Tryz.prog 162 #[.int .u8 k] w fun e h=>e=.returned (.bool r)∧w=h:=by
 have b:=O c;clear c;by_cases h1:40≤k
 ·have d:decide ((40:Int)≤(k:Int))=true:=aiG (by omega);by_cases h2:k≤46
  ·have f:decide ((k:Int)≤(46:Int))=true:=aiG (by omega);have a:=O (show r=true by rw [← b.o];simp [dB,h1,h2]);go_in
   go_wp2;go_ret;exact⟨bD a.o.symm,rfl⟩
  ·have f:decide ((k:Int)≤(46:Int))=false:=aiH (by omega);have a:=O (show r=false by rw [← b.o];simp [dB,h2]);go_in
   go_wp2;go_ret;exact⟨bD a.o.symm,rfl⟩
 ·have d:decide ((40:Int)≤(k:Int))=false:=aiH (by omega);have a:=O (show r=false by rw [← b.o];simp [dB,h1]);go_in
  go_wp2;go_ret;exact⟨bD a.o.symm,rfl⟩
theorem EG (k:Nat)(r:Bool)(c:eZ k=r)(w:World):Calls Tryz.prog 120 #[.int .u8 k] w fun e i=>e=.returned (.bool r)∧w=i:=by
 have b:=O c;clear c;by_cases h1:1≤k
 ·have d:decide ((1:Int)≤(k:Int))=true:=aiG (by omega);by_cases h2:k≤26
  ·have f:decide ((k:Int)≤(26:Int))=true:=aiG (by omega);by_cases h3:k=25
   ·have h:((k:Int) != 25)=false:=by rw [h3];rfl
    have a:=O (show r=false by rw [← b.o];rw [h3];decide);go_in
    go_wp2;go_ret;exact⟨bD a.o.symm,rfl⟩
   ·have h:((k:Int) != 25)=true:=by rw [bne_iff_ne];omega
    have a:=O (show r=true by rw [← b.o];simp [eZ,h1,h2,h3]);go_in
    go_wp2;go_ret;exact⟨bD a.o.symm,rfl⟩
  ·have f:decide ((k:Int)≤(26:Int))=false:=aiH (by omega);have a:=O (show r=false by rw [← b.o];simp [eZ,h2]);go_in
   go_wp2;go_ret;exact⟨bD a.o.symm,rfl⟩
 ·have d:decide ((1:Int)≤(k:Int))=false:=aiH (by omega);have a:=O (show r=false by rw [← b.o];simp [eZ,h1]);go_in
  go_wp2;go_ret;exact⟨bD a.o.symm,rfl⟩
theorem Yl (k:Nat)(r:Bool)(c:decide (k=34)=r)(w:World):Calls Tryz.prog 185 #[.int .u8 k] w fun e f=>e=.returned (.bool r)∧w=f:=by
 have b:=O c;clear c;by_cases h1:k=34
 ·have d:((k:Int) == 34)=true:=by rw [h1];rfl
  have a:=O (show r=true by rw [← b.o];simp [h1]);go_in
  go_wp2;go_ret;exact⟨bD a.o.symm,rfl⟩
 ·have d:((k:Int) == 34)=false:=by rw [air];omega
  have a:=O (show r=false by rw [← b.o];simp [h1]);go_in
  go_wp2;go_ret;exact⟨bD a.o.symm,rfl⟩
theorem adj (k:Nat)(r:Bool)(c:decide (k=25)=r)(w:World):Calls Tryz.prog 182 #[.int .u8 k] w fun e f=>e=.returned (.bool r)∧w=f:=by
 have b:=O c;clear c;by_cases h1:k=25
 ·have d:((k:Int) == 25)=true:=by rw [h1];rfl
  have a:=O (show r=true by rw [← b.o];simp [h1]);go_in
  go_wp2;go_ret;exact⟨bD a.o.symm,rfl⟩
 ·have d:((k:Int) == 25)=false:=by rw [air];omega
  have a:=O (show r=false by rw [← b.o];simp [h1]);go_in
  go_wp2;go_ret;exact⟨bD a.o.symm,rfl⟩
theorem ade (k:Nat)(r:Bool)(c:decide (k=1)=r)(w:World):Calls Tryz.prog 184 #[.int .u8 k] w fun e f=>e=.returned (.bool r)∧w=f:=by
 have b:=O c;clear c;by_cases h1:k=1
 ·have d:((k:Int) == 1)=true:=by rw [h1];rfl
  have a:=O (show r=true by rw [← b.o];simp [h1]);go_in
  go_wp2;go_ret;exact⟨bD a.o.symm,rfl⟩
 ·have d:((k:Int) == 1)=false:=by rw [air];omega
  have a:=O (show r=false by rw [← b.o];simp [h1]);go_in
  go_wp2;go_ret;exact⟨bD a.o.symm,rfl⟩
def Ie:Pd→Nat
 | .expr=>120
 | .typ=>183
 | .param=>185
 | .put=>182
 | .num=>184
def FZ (p:Pd):Value:=.func (.func (Ie p)) #[] #[]
theorem KI (p:Pd)(k:Nat)(r:Bool)(a:p.is k=r)(w:World):Calls Tryz.prog (Ie p) #[.int .u8 k] w fun e b=>e=.returned (.bool r)∧w=b:=by
 cases p with
 | expr=>exact EG k r a w
 | typ=>exact aaL k r a w
 | param=>exact Yl k r a w
 | put=>exact adj k r a w
 | num=>exact ade k r a w
theorem Rm (k:Nat)(r:Bool)(d:Pd.expr.is k=r)(w:World)(a b:Value)(g:Nat)(T:TypeId)(h:aZ w g T #[a,b,FZ .expr]):Calls Tryz.prog 189 #[.int .u8 k,.pointer (some ⟨g,0,none⟩)] w fun e f=>e=.returned (.bool (!r))∧w=f:=by
 have c2:=h.cell 2;have c:=O (KI .expr k r d w);clear d;simp only [FZ,Ie] at c2 c
 go_in
 go_wp2_with (refine c.o.mono ?_;rintro e f ⟨rfl,rfl⟩)
 go_ret;exact⟨rfl,rfl⟩
theorem Wh (k:Nat)(r:Bool)(d:Pd.typ.is k=r)(w:World)(a b:Value)(g:Nat)(T:TypeId)(h:aZ w g T #[a,b,FZ .typ]):Calls Tryz.prog 189 #[.int .u8 k,.pointer (some ⟨g,0,none⟩)] w fun e f=>e=.returned (.bool (!r))∧w=f:=by
 have c2:=h.cell 2;have c:=O (KI .typ k r d w);clear d;simp only [FZ,Ie] at c2 c
 go_in
 go_wp2_with (refine c.o.mono ?_;rintro e f ⟨rfl,rfl⟩)
 go_ret;exact⟨rfl,rfl⟩
theorem M_ (k:Nat)(r:Bool)(d:Pd.param.is k=r)(w:World)(a b:Value)(g:Nat)(T:TypeId)(h:aZ w g T #[a,b,FZ .param]):Calls Tryz.prog 189 #[.int .u8 k,.pointer (some ⟨g,0,none⟩)] w fun e f=>e=.returned (.bool (!r))∧w=f:=by
 have c2:=h.cell 2;have c:=O (KI .param k r d w);clear d;simp only [FZ,Ie] at c2 c
 go_in
 go_wp2_with (refine c.o.mono ?_;rintro e f ⟨rfl,rfl⟩)
 go_ret;exact⟨rfl,rfl⟩
theorem V_ (k:Nat)(r:Bool)(d:Pd.put.is k=r)(w:World)(a b:Value)(g:Nat)(T:TypeId)(h:aZ w g T #[a,b,FZ .put]):Calls Tryz.prog 189 #[.int .u8 k,.pointer (some ⟨g,0,none⟩)] w fun e f=>e=.returned (.bool (!r))∧w=f:=by
 have c2:=h.cell 2;have c:=O (KI .put k r d w);clear d;simp only [FZ,Ie] at c2 c
 go_in
 go_wp2_with (refine c.o.mono ?_;rintro e f ⟨rfl,rfl⟩)
 go_ret;exact⟨rfl,rfl⟩
theorem V9 (k:Nat)(r:Bool)(d:Pd.num.is k=r)(w:World)(a b:Value)(g:Nat)(T:TypeId)(h:aZ w g T #[a,b,FZ .num]):Calls Tryz.prog 189 #[.int .u8 k,.pointer (some ⟨g,0,none⟩)] w fun e f=>e=.returned (.bool (!r))∧w=f:=by
 have c2:=h.cell 2;have c:=O (KI .num k r d w);clear d;simp only [FZ,Ie] at c2 c
 go_in
 go_wp2_with (refine c.o.mono ?_;rintro e f ⟨rfl,rfl⟩)
 go_ret;exact⟨rfl,rfl⟩
end
