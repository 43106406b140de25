/-
  A part of the proof.
-/
import Derived.Test.YtalghggmkojblaaGreatDoorS16
set_option linter.all false
set_option maxRecDepth 100000
set_option maxHeartbeats 4000000
namespace Go.Proofs.YtalghggmkojblaaGreatDoor
section
open Go.RowKit Mist
attribute [local go_sem] ak aN aV aF aj
section
variable {g:Nat} {tv:Value} {l:List Tok} {en:Int} {iv:Value} (hF:PF l)
include hF
theorem abv (m:Nat)(w:World)(k:Nat)(xs:List NV)(nv:Value)(r:j5)(h:PS g tv l en iv w (k+1) xs nv)(hk:k+1≤l.length)(hn:xs.length≤k)(hw:Wf (aH xs))(hr:jg l en m .ask k (aH xs)=some r) :
  Calls Tryz.prog 139 #[.pointer (some ⟨g,0,none⟩),.agg #[.int .u8 (tg l k).kind,.string (aG (tx l k)),.int .i64 (pl l en k)]] w (bG g tv l en iv w xs nv r):=by
 have C:=fun (f:Nat) (_:f≤m) (j:Job) (hj:isFn j=true)=>oD (g:=g) (tv:=tv) (en:=en) (iv:=iv) hF f j hj
 have CL:=fun (f:Nat) (_:f≤m) (e:El)=>oC (g:=g) (tv:=tv) (en:=en) (iv:=iv) hF f e
 have H:=O h;clear h;have nP:=O ((At.refl H.o).alloc (.cells #[.int .u8 (tg l k).kind,.string (aG (tx l k)),.int .i64 (pl l en k)] 112));have xg:=O (bY.new w 112 #[.int .u8 (tg l k).kind,.string (aG (tx l k)),.int .i64 (pl l en k)]);have c:=O hw;clear hw;have hn0:(aH xs).length≤k:=by rw [dK];exact hn
 have i:=hF.len;unfold jg at hr
 have qX:=O hr;clear hr;go_in
 obtain⟨i0,hi0,hz0,hz1,hz2⟩:=info_parts jq;have Jz:=qX.o;unfold UM at Jz;have ajo:=O Jz;clear Jz
 go_wp2_with fail;refine (Pw _).mono ?_;rintro e w2⟨rfl,rfl⟩;have L:=heap_alloc_new (w.alloc (.cells #[.int .u8 (tg l k).kind,.string (aG (tx l k)),.int .i64 (pl l en k)] 112)) (.map (jF Ef 0).toArray 8);rw [show (w.alloc (.cells #[.int .u8 (tg l k).kind,.string (aG (tx l k)),.int .i64 (pl l en k)] 112)).heap.size=w.heap.size+1 by simp] at L;have HM:=O L;clear L
 have dY:=O (xg.o.alloc (.map (jF Ef 0).toArray 8));clear xg;have E:=O (nP.o.alloc (.map (jF Ef 0).toArray 8));clear nP;go_wp2_with fail;refine (iU g tv l en iv _ (k+1) _ _ E.o.ps (by omega) i).mono ?_;rintro e w3⟨rfl,A⟩;have vo:=O ((A.block _ (amI.1 HM.o).1).trans HM.o);have jB:=O (dY.o.below A dY.o.lt);clear dY;have J:=O (E.o.below A);clear E;clear A;have hlk:=abO _ _ _ vo.o (tx l (k+1));have tf1:=oG;obtain⟨Q,hQ⟩:∃ Q,Q=oI (tx l (k+1)):=⟨_,rfl⟩;rw [← hQ] at hlk
 have Zd:=ajo.o;rw [← hQ] at Zd
 have hQ8:Q≤8:=by rw [hQ];unfold oI;(repeat' split) <;> omega
 have hQt:Q ≠ 0→k+1 < l.length:=fun h=>dR (s:=tx l (k+1)) rfl (fun e9=>h (by rw [hQ,e9];rfl))
 clear hQ;rcases gG Zd with ⟨I,Sq⟩ | ⟨I,Sq⟩
 all_goals clear Zd
 ·skip;obtain rfl:j5.bad (k+1)=r:=amR Sq;subst I;have hq9:(((0:Nat):Int) == 0)=true:=rfl;go_wp2_with fail;refine (sU g tv l en iv _ (k+1) _ _ J.o.ps (by omega) i).mono ?_;rintro e wq⟨rfl,hbq⟩
  (try unfold aY)
  go_wp2_with fail;exact⟨rfl,bG.bad rfl ((H.o.low J.o.mv).trans (hbq.mono (amM J.o.ps.lt)))⟩
 ·skip;have alg:=hQt I;have HRQ:=O Sq;clear Sq;have hq9:((Q:Int) == 0)=false:=by simp;omega
  go_wp2_with fail;refine (tQ g tv l en iv _ (k+1) _ _ J.o.ps (by omega) i).mono ?_;rintro e w4⟨rfl,p4,m4⟩;clear hlk hq9;have D:=O (J.o.ps.bH m4 jB.o);clear jB;have a:=O (J.o.step p4 m4);clear J;clear p4 m4;rcases gG HRQ.o with ⟨K7,S⟩ | ⟨K7,S⟩
  ·skip;subst K7;have G:=O S;clear S;obtain rfl:=dS G.o;have fP:=D.o.cell 0;have fZ:=D.o.cell 1;have f_:=D.o.cell 2;have sl0:=D.o.lt;go_wp2_with fail;refine (h_ g tv l en iv (aH xs).length 46 _ _ _ [] 7 _ [] _ ((k+1)+1) _ _ a.o.ps (dw.none_ _) a.o.len (by omega)).mono ?_;rintro e w5⟨rfl,Qx,p5,m5⟩;have sH:=O (a.o.add p5 m5 (by intro b y;simp [Value.ownBlock] at y));clear p5 m5;go_wp2_with fail;go_ret;exact bG.ok rfl sH.o
  ·skip;rcases gG S with ⟨Y,d⟩ | ⟨Y,d⟩
   all_goals clear S
   ·skip;subst Y;have G:=O d;clear d;rcases dW G.o with ⟨ks6,k6,ns6,n,hr6⟩ | ⟨kb6,n,rfl⟩
    rotate_left
    ·have v:=O n;clear n;go_wp2_with fail;refine (CL m (amL _) .expr _ ((k+1)+1) _ _ _ a.o.ps (by omega) (by rw [a.o.len];omega) (by rw [a.o.ns];exact c.o) (by rw [a.o.ns];exact v.o)).mono ?_;rintro e w6⟨rfl,hb6⟩
     (try unfold aY)
     go_wp2_with fail;exact⟨rfl,bG.bad rfl ((H.o.low a.o.mv).trans hb6)⟩
    have v:=O n;clear n;have Ew:=O hr6;clear hr6 G;go_wp2_with fail;refine (CL m (amL _) .expr _ ((k+1)+1) _ _ _ a.o.ps (by omega) (by rw [a.o.len];omega) (by rw [a.o.ns];exact c.o) (by rw [a.o.ns];exact v.o)).mono ?_;rintro e w6⟨v6,ajC,Tn,rfl,M,K,hd6⟩;have N:=O (jr (base':=w.heap.size) M (fun b y=>Nat.le_trans a.o.mv.size (M.lt b y).1));clear M hd6;have V:=O (eG v.o (by omega) c.o (Ids.nil _) (by simp));have gl6:=V.o.lo;have gf6:=V.o.few;have ge6:=V.o.le;have gn6:=V.o.len;simp only [Job.reads] at gl6
    have pO:=O (K.blk a.o.ps D.o (by decide) (by decide));clear D;have adB:=O V.o.wf;have r_:=O (a.o.trans K);clear a;clear K;obtain rfl:=dS Ew.o;have fP:=pO.o.cell 0;have fZ:=pO.o.cell 1;have f_:=pO.o.cell 2;have sl0:=pO.o.lt;go_wp2_with fail;refine (h_ g tv l en iv ns6.length 46 _ _ _ [] 8 _ ks6 _ k6 _ _ r_.o.ps (jr N.o (fun _ _=>amN _)) r_.o.len (by omega)).mono ?_;rintro e w7⟨rfl,nv7,p7,m7⟩;have sH:=O (r_.o.add p7 m7 (fun b y=>(N.o.lt b y).1));clear p7 m7;go_wp2_with fail;go_ret;exact bG.ok rfl sH.o
   ·skip;have G:=O d;clear d;have u7:((Q:Int) == 7)=false:=by simp;omega
    have u8:((Q:Int) == 8)=false:=by simp;omega
    have F:=O (show w4.ownsRow w.heap.size 3 1 (.slice none 0 0) 0 (intCells []) from World.ownsRow_nil _ _ _ _);have HQN:=O (show ([]:List Int).length=0 from rfl);have ahm:=O (ne_nil (ext:=[]));rcases dW G.o with ⟨t,k8,ns8,R,U9⟩ | ⟨kb8,R,rfl⟩
    rotate_left
    ·have UJ:=O R;clear R;go_wp2_with fail;refine (C m (amL _) .expr rfl _ ((k+1)+1) _ _ _ a.o.ps (by omega) (by rw [a.o.len];omega) (by rw [a.o.ns];exact c.o) (by rw [a.o.ns];exact UJ.o)).mono ?_;rintro e w8⟨rfl,Ez⟩
     (try unfold aY)
     go_wp2_with fail;exact⟨rfl,bG.bad rfl ((H.o.low a.o.mv).trans Ez)⟩
    have UJ:=O R;clear R;have Je:=O U9;clear U9 G;go_wp2_with fail;refine (C m (amL _) .expr rfl _ ((k+1)+1) _ _ _ a.o.ps (by omega) (by rw [a.o.len];omega) (by rw [a.o.ns];exact c.o) (by rw [a.o.ns];exact UJ.o)).mono ?_;rintro e w8⟨rfl,ahV,nv8,U⟩;have T:=O (eG UJ.o (by omega) c.o (Ids.nil _) (by simp));have gl8:=T.o.lo;have gf8:=T.o.few;have ge8:=T.o.le;have gn8:=T.o.len;simp only [Job.reads] at gl8
    have vk:=O (U.blk a.o.ps D.o (by decide) (by decide));clear D;have ahl:=O (EY ahm.o U.fresh (fun b y=>(F.o.lt b y).2));clear ahm;have UE:=O (a.o.ps.mM U.mv F.o (by decide) (by decide));clear F;have ajv:=O T.o.wf;have zf:=O (a.o.trans U);clear a;clear U
    go_wp2_with (at_builtin
                 refine wpList_append_lies _ rfl (.tmp 19) (.tmp 22) 26 rfl w.heap.size 3 i0 _ 1 8 Tryz.underlying26 hi0 hz0 hz1 hz2 rfl (by decide) _ 0 (intCells []) rfl
                   (UE.o.alloc _) ⟨w8.heap.size,0,none⟩ 1 1 [.int .i64 (hd t)] rfl rfl (iK _ _ _) (by intro u hu;simp at hu;subst hu;rfl) (by omega) (by simp only [maxLen];omega) (by omega) (by have:=zf.o.mv.size;simp;omega) (w8.heap.size+1) (by simp) ?_
                 intro gg9 Z w9 W B X aj2;have x:=l6 vk.o UE.o B (by decide);have ai2:=x.cell 0;have ai3:=x.cell 1;have ai4:=x.cell 2;have akZ:=x.lt)
    have alr:=O (AU zf.o.ps ahl.o X (0+1) Z);clear X;have nS:=O (l6 vk.o UE.o B (by decide));have yS:=O ((zf.o.alloc (.cells #[.int .i64 (hd t)] 3)).grown H.o UE.o (by decide) B ahl.o);have P:=O (show w9.ownsRow w.heap.size 3 1 (.slice (some ⟨gg9,0,none⟩) (0+1) Z) (0+1) (intCells ([] ++ [hd t])) by rw [jf];exact W);clear W;have HQ9:=O (show ([] ++ [hd t]).length=0+1 by rw [amQ,HQN.o];rfl);clear B aj2;obtain rfl:=dS Je.o;have fP:=nS.o.cell 0;have fZ:=nS.o.cell 1;have f_:=nS.o.cell 2;have sl0:=nS.o.lt;refine (h_ g tv l en iv ns8.length 46 _ _ _ [] (Q:Int) _ ([] ++ [hd t]) _ k8 _ _ yS.o.ps (abD HQ9.o P.o) yS.o.len (by omega)).mono ?_;rintro e w10⟨rfl,aeu,p10,m10⟩;have sH:=O (yS.o.add p10 m10 (fun b y=>(P.o.lt b y).1));clear p10 m10;go_wp2_with fail;go_ret;exact bG.ok rfl sH.o
end
end
section
open Go.RowKit Mist
section
variable {g:Nat} {tv:Value} {l:List Tok} {en:Int} {iv:Value} (hF:PF l)
include hF
theorem OE (i:It)(m:Nat)(w:World)(k:Nat)(xs:List NV)(nv:Value)(r:j5)(h:PS g tv l en iv w (k+1) xs nv)(a:k+1≤l.length)(b:xs.length≤k)(d:Wf (aH xs))(c:jg l en m i k (aH xs)=some r) :
  Calls Tryz.prog (EA i) #[.pointer (some ⟨g,0,none⟩),.agg #[.int .u8 (tg l k).kind,.string (aG (tx l k)),.int .i64 (pl l en k)]] w (bG g tv l en iv w xs nv r):=by
 cases i with
 | choose=>exact OG hF m w k xs nv r h a b d c
 | record=>exact OH hF m w k xs nv r h a b d c
 | Sb=>exact Xv hF m w k xs nv r h a b d c
 | Lg=>exact Xx hF m w k xs nv r h a b d c
 | observe=>exact Lc hF m w k xs nv r h a b d c
 | uG=>exact Ld hF m w k xs nv r h a b d c
 | ask=>exact abv hF m w k xs nv r h a b d c
end
theorem Qk (w:World):(zeroValue 156).run Tryz.prog w=.ok .nilFunc w:=by kernel_rfl
theorem XF (w:World)(m c:Nat)(a:w.heap[m]? = some (.map (jF Ah 0).toArray c))(x:Bs):(Instr.lookup 152 (.map (some m)) (.string (aG x)) true).run Tryz.prog w=.ok (.tuple #[((Xu x).map fun i=>fv (EA i)).getD .nilFunc,.bool (Xu x).isSome]) w:=by
 have h:=Gv 152 156 .nilFunc Tryz.underlying152 w (Qk w) Ah m c a x true;rw [h,abt];simp
structure PR (g:Nat) (tv:Value) (l:List Tok) (en:Int) (iv:Value) (w:World) (k:Nat) (xs:List NV) (nv:Value) (its:List Int) (q:Nat):Prop where
 ps:PS g tv l en iv w k xs nv
 len:its.length=q
 row:w.ownsRow (g+1) 3 1 iv q (intCells its)
 ne:∀ x ∈ xs,x.2.ownBlock=none∨x.2.ownBlock ≠ iv.ownBlock
 far:∀ x ∈ xs,∀ b,x.2.ownBlock=some b→g < b
section
variable {g:Nat} {tv:Value} {l:List Tok} {en:Int} {iv:Value} {w w1 w2:World} {k k1:Nat} {xs ext:List NV} {nv ji:Value} {its:List Int} {q:Nat}
theorem PR.below (h:PR g tv l en iv w k xs nv its q)(a:Below w.heap.size w w1):PR g tv l en iv w1 k xs nv its q :=
 ⟨h.ps.below a,h.len,own_below h.row a,h.ne,h.far⟩
theorem PR.alloc (h:PR g tv l en iv w k xs nv its q)(o:Obj):PR g tv l en iv (w.alloc o) k xs nv its q:=h.below ((Below.refl _ _).alloc (amL _) o)
theorem PR.drew (h:PR g tv l en iv w k xs nv its q):PR g tv l en iv w.drew k xs nv its q:=h.below (Below.drew (Below.refl _ _))
theorem PR.step (h:PR g tv l en iv w k xs nv its q)(p:PS g tv l en iv w1 k1 xs nv)(m:Mv g nv.ownBlock w nv.ownBlock w1):PR g tv l en iv w1 k1 xs nv its q :=
 ⟨p,h.len,h.ps.mM m h.row (by decide) (by decide),h.ne,h.far⟩
theorem PR.at_ {e:List Nd}(h:PR g tv l en iv w k xs nv its q)(a:At g tv l en iv w xs nv k1 e w1 ext ji):PR g tv l en iv w1 k1 (xs ++ ext) ji its q :=
 ⟨a.ps,h.len,h.ps.mM a.mv h.row (by decide) (by decide),EY h.ne a.fresh (fun b d=>(h.row.lt b d).2),fun x c b d=>by
  rcases List.mem_append.1 c with c | c
  ·exact h.far x c b d
  ·have:=a.fresh x c b d;have:=h.ps.lt;omega⟩
theorem PR.grown {o:Obj}{a:Int}{f cap:Nat}(h:PR g tv l en iv w k xs nv its q)(t:(w.alloc o).grownBy w2 iv.ownBlock)(j:iv.ownBlock=some f∨f=w.heap.size+1)
  (d:w2.ownsRow (g+1) 3 1 (.slice (some ⟨f,0,none⟩) (q+1) cap) (q+1) (intCells its ++ [.int .i64 a])) :
  PR g tv l en (.slice (some ⟨f,0,none⟩) (q+1) cap) (w2.setCell ⟨g,4,none⟩ (.slice (some ⟨f,0,none⟩) (q+1) cap)) k xs nv (its ++ [a]) (q+1):=by
 have p:=(h.ps.alloc o).grown t (fun b i=>by
  have r:=h.row.lt b i
  refine⟨by omega,fun e=>?_,fun x n e=>?_⟩
  ·rcases eB h.row h.ps.own (by decide) with c | c
   ·rw [i] at c;cases c
   ·exact c (i.trans e.symm)
  ·rcases h.ne x n with c | c
   ·rw [e] at c;cases c
   ·exact c (e.trans i.symm))
 have m:Mv g nv.ownBlock w2 nv.ownBlock (w2.setCell ⟨g,4,none⟩ (.slice (some ⟨f,0,none⟩) (q+1) cap)):=Mv.jX p.blk 4 _
 refine⟨⟨(by have:=p.blk.jX 4 (.slice (some ⟨f,0,none⟩) (q+1) cap);simpa using this),ownsRow_setCell_other p.own (aW p.own p.blk (by decide)) _,fun x n=>p.uy m (p.kids x n),p.toks.below (p.low m),qm p.env (p.low m)⟩,by rw [amQ,h.len];rfl,?_,AU (xs:=[]) h.ps h.ne j _ _,h.far⟩
 rw [jf];exact ownsRow_setCell_other d (aW d p.blk (by decide)) _
theorem PR.low {o:Obj}{u:Value}{i:Nat}(h:PR g tv l en iv w k xs nv its q)(c:(w.alloc o).grownBy w2 iv.ownBlock):Below g w (w2.setCell ⟨g,i,none⟩ u) :=
 gQ (((Below.refl _ _).alloc (amM h.ps.lt) o).grown c (by have:=h.ps.lt;simp;omega) (fun b a=>by have:=(h.row.lt b a).1;omega)) (amL _)
theorem PR.more {r h i:World}{D:List Nd}{o:Obj}{a:Int}{d cap b c:Nat}{n:Array MapEntry}(h4:PR g tv l en iv r k xs nv its q)(t:At g tv l en iv r.drew xs nv k1 D h ext ji)(v:(h.alloc o).grownBy i iv.ownBlock)(u:iv.ownBlock=some d∨d=h.heap.size+1)
  (m:i.ownsRow (g+1) 3 1 (.slice (some ⟨d,0,none⟩) (q+1) cap) (q+1) (intCells its ++ [.int .i64 a])) (E:r.heap[b]? = some (.map n c)) :
  PR g tv l en (.slice (some ⟨d,0,none⟩) (q+1) cap) (i.setCell ⟨g,4,none⟩ (.slice (some ⟨d,0,none⟩) (q+1) cap)) k1 (xs ++ ext) ji (its ++ [a]) (q+1)∧Below g r (i.setCell ⟨g,4,none⟩ (.slice (some ⟨d,0,none⟩) (q+1) cap))∧(i.setCell ⟨g,4,none⟩ (.slice (some ⟨d,0,none⟩) (q+1) cap)).heap[b]? = some (.map n c):=by
 have h5:=h4.drew.at_ t;have f:h.heap[b]? = some (.map n c):=t.map h4.drew.ps E;have j:(h.alloc o).heap[b]? = some (.map n c):=nZ f _;have x:b < (h.alloc o).heap.size:=(amI.1 j).1
 refine⟨h5.grown v u m,(((Below.drew (Below.refl _ _)).trans (h4.drew.ps.low t.mv)).trans (h5.low v)),?_⟩
 have y:some b ≠ iv.ownBlock:=by
  intro e;rcases h5.row.2 with ⟨hv,_⟩ | ⟨F,cap,C,hv,_,B,_⟩
  ·rw [hv] at e;simp [Value.ownBlock] at e
  ·rw [hv] at e;simp [Value.ownBlock] at e
   rw [← e,f] at B;cases B
 have A:b ≠ g:=(h5.ps.qH f).1;exact (Below.heap_setCell i ⟨g,4,none⟩ _ b (by simpa using A)).trans ((v.block b x y).trans j)
end
end
section
open Go.RowKit Mist
attribute [local go_sem] ak aN aV aF aj
def FI (g:Nat)(tv:Value)(l:List Tok)(en:Int)(w:World)(r:j5)(e:Ending)(w':World):Prop :=
 match r with
 | .ok its k ns=>(∃ v,e=.returned v)∧(∃ xs nv iv q,PR g tv l en iv w' k xs nv its q∧aH xs=ns)∧Below g w w'
 | .bad k=>e=aY l en k∧Below g w w'
theorem FI.bad {g:Nat}{tv:Value}{l:List Tok}{en:Int}{w w1:World}{k:Nat}{e:Ending}(b:e=aY l en k)(a:Below g w w1):FI g tv l en w (.bad k) e w1:=⟨b,a⟩
section
variable {g:Nat} {tv:Value} {l:List Tok} {en:Int} (hF:PF l)
include hF
theorem Pp (n f:Nat)(w:World)(k q:Nat)(xs:List NV)(nv iv:Value)(its:List Int)(r:j5)(h:PR g tv l en iv w k xs nv its q)(hk:k≤l.length)(hn:xs.length≤k)(hq:q≤k)(hw:Wf (aH xs))(hr:prog l en n f k (aH xs) its=some r) :
  Calls Tryz.prog 68 #[.pointer (some ⟨g,0,none⟩)] w (FI g tv l en w r):=by
 obtain⟨A,c,rfl,hlc,_⟩:=h.ps.toks;obtain⟨i0,hi0,hz0,hz1,hz2⟩:=info_parts jq;have H:=O h;clear h;have HW0:=O hw;clear hw;have HP0:=O hr;clear hr;have B:=hF.len;have hgl:=H.o.ps.lt;go_in
 go_wp2_with fail;refine (Xy _).mono ?_;rintro e w1⟨rfl,rfl⟩;have HM0:=O (heap_alloc_new w (.map (jF Ah 0).toArray 7));have H1:=O (H.o.alloc (.map (jF Ah 0).toArray 7));have HB0:=O (aU (Below.refl g w) (amM hgl) (o:=.map (jF Ah 0).toArray 7));go_wp2_with fail;go_loopw [3] (fun bv wr=>∃ (E b q':Nat) (j:List NV) (gY D_:Value) (I:List Int),b≤l.length∧j.length≤b∧q'≤b∧Hid (PR g (.slice A l.length c) l en D_ wr b j gY I q')∧Hid (wr.heap[w.heap.size]? = some (.map (jF Ah 0).toArray 7))∧Hid (Wf (aH j))∧Hid (prog l en n E b (aH j) I=some r)∧Hid (Below g w wr)) (fun _ wr=>xH g l.length wr)
 case atStart=>exact⟨f,k,q,xs,nv,iv,its,hk,hn,hq,H1,HM0,HW0,HP0,HB0⟩
 case round =>
  clear HM0 H1 HB0 HP0 HW0 hk hn hq;obtain⟨E,b,q',j,gY,D_,I,hk',hn',hq',N,HM,HW,HP,HB⟩:=hrel
  obtain⟨E,rfl⟩:∃ f0,E=f0+1:=⟨E - 1,by
   rcases Nat.eq_zero_or_pos E with h | h
   ·subst h;have:=HP.o;rw [prog] at this;cases this
   ·omega⟩
  have HMS:=O (N.o.ps.xH (n:=l.length));have c0:=N.o.ps.blk.cell 0;have c2:=N.o.ps.blk.cell 2;have hgr:=N.o.ps.lt;by_cases hkl:b < l.length
  case neg =>
   have y:=O (show r=.ok I b (aH j) by have:=HP.o;rw [prog,if_neg hkl] at this;exact (amR this).symm);have d1:decide ((b:Int) < (l.length:Int))=false:=amX (by omega);have d2:decide (b < l.length)=false:=amX (by omega);go_wp2_with fail;go_quiet (fail)
   go_wp2_with fail;refine bodyPost_ret (v:=.tuple #[]) (by simp [results,Tryz.f68,go_sem]) rfl ?_;rw [y.o];exact⟨⟨_,rfl⟩,⟨_,_,_,_,N.o.below (mJ (Below.refl _ _) _),rfl⟩,mJ HB.o _⟩
  case pos =>
   have Y3:=O (show thn (item l en n b (aH j)) (fun a k1 Q=>need l [59] k1 <| prog l en n E (k1+1) Q (I ++ [hd a]))=some r by have:=HP.o;rw [prog,if_pos hkl] at this;exact this);clear HP;have d1:decide ((b:Int) < (l.length:Int))=true:=amW (by omega);have d2:decide (b < l.length)=true:=amW (by omega);go_wp2_with fail;go_quiet (fail)
   clear d1 d2 c0 c2;go_wp2_with fail;refine (iU g _ l en D_ _ b _ _ (N.o.below (mJ (Below.refl _ _) _)).ps (by omega) B).mono ?_;rintro e w2⟨rfl,P⟩;have V:=O ((N.o.below (mJ (Below.refl _ _) _)).below P);have X:=HM.o;have hms:w.heap.size < wr.heap.size:=(amI.1 X).1;have vo:=O ((P.block w.heap.size hms).trans X);clear X;have HB2:=O ((mJ HB.o _).trans (P.mono (amM N.o.ps.lt)));clear P N HM HB;have CK:=O (bY.new w2 112 #[.int .u8 (tg l b).kind,.string (aG (tx l b)),.int .i64 (pl l en b)]);have m:=O (V.o.alloc (.cells #[.int .u8 (tg l b).kind,.string (aG (tx l b)),.int .i64 (pl l en b)] 112));have Jd:=O (nZ vo.o (.cells #[.int .u8 (tg l b).kind,.string (aG (tx l b)),.int .i64 (pl l en b)] 112));have J:=O (aU HB2.o (amM V.o.ps.lt) (o:=(.cells #[.int .u8 (tg l b).kind,.string (aG (tx l b)),.int .i64 (pl l en b)] 112)));have D:=XF _ _ _ Jd.o (tx l b);have Y:=CK.o.cell 0;have Z:=CK.o.cell 1;have sc2:=CK.o.cell 2;have slt:=CK.o.lt;clear V vo HB2;rcases hi:Xu (tx l b) with _ | i
   ·rw [hi] at D
    simp only [Option.map_none,Option.getD_none,Option.isSome_none] at D
    have y:=O (show j5.bad b=r by
     have h9:=Y3.o;have e9:item l en n b (aH j)=some (.bad b):=by unfold item;split <;> simp [hi]
     rw [e9] at h9;exact amR h9)
    clear hi;go_wp2_with fail;refine (sU g _ l en D_ _ b _ _ m.o.ps (by omega) B).mono ?_;rintro e wq⟨rfl,W⟩;go_wp2_with fail;rw [← y.o];exact⟨rfl,FI.bad rfl (J.o.trans (W.mono (amM m.o.ps.lt)))⟩
   have HI:=O hi;rw [hi] at D
   simp only [Option.map_some,Option.getD_some,Option.isSome_some] at D
   unfold fv at D
   clear hi;by_cases C:(tg l b).kind=3
   case neg =>
    have n3:(((tg l b).kind:Int) != 3)=true:=by simp [bne];omega
    have y:=O (show j5.bad b=r by
     have h9:=Y3.o;have e9:item l en n b (aH j)=some (.bad b):=by unfold item;rw [if_neg C]
     rw [e9] at h9;exact amR h9)
    clear C;go_wp2_with fail;refine (sU g _ l en D_ _ b _ _ m.o.ps (by omega) B).mono ?_;rintro e wq⟨rfl,W⟩;go_wp2_with fail;rw [← y.o];exact⟨rfl,FI.bad rfl (J.o.trans (W.mono (amM m.o.ps.lt)))⟩
   case pos =>
    have n3:(((tg l b).kind:Int) != 3)=false:=by rw [C];rfl
    have T:=O (show thn (jg l en n i b (aH j)) (fun a k1 Q=>need l [59] k1 <| prog l en n E (k1+1) Q (I ++ [hd a]))=some r by
     have h9:=Y3.o;have e9:item l en n b (aH j)=jg l en n i b (aH j):=by unfold item;rw [if_pos C,HI.o]
     rw [e9] at h9;exact h9)
    have Q9:=O C;clear C Y3;go_wp2_with fail;refine (tQ g _ l en D_ _ b _ _ m.o.ps (by omega) B).mono ?_;rintro e w4⟨rfl,p4,m4⟩;clear D n3 Y Z sc2 slt;have t:=O (m.o.step p4 m4);have HM4:=O ((m4.block _ (amI.1 Jd.o).1 (m.o.ps.qH Jd.o).1 (m.o.ps.qH Jd.o).2).trans Jd.o);have Cz:=O (J.o.trans (m.o.ps.low m4));have Ra:=O (m.o.ps.bH m4 CK.o);clear p4 m4 m Jd J CK;have c4:=t.o.ps.blk.cell 4;have Y:=Ra.o.cell 0;have Z:=Ra.o.cell 1;have sc2:=Ra.o.cell 2;have slt:=Ra.o.lt;have hl4:=t.o.ps.lt;rcases hx:jg l en n i b (aH j) with _ | x
    ·have:=T.o;rw [hx] at this;cases this
    have HX:=O hx;clear hx;have U:=O (show thn (some x) (fun a k1 Q=>need l [59] k1 <| prog l en n E (k1+1) Q (I ++ [hd a]))=some r by have:=T.o;rw [HX.o] at this;exact this);clear T
    cases x with
    | bad kb =>
     have y:=O (show j5.bad kb=r from amR U.o);cases i
     all_goals
      dsimp only [EA]
      go_wp2_with fail;refine wp_region_held_drew (S:=fun w'=>w'.cell? ⟨g,4,none⟩=some D_∧w'.cell? ⟨w2.heap.size,0,none⟩=some (.int .u8 (tg l b).kind)∧w'.cell? ⟨w2.heap.size,1,none⟩=some (.string (aG (tx l b)))∧w'.cell? ⟨w2.heap.size,2,none⟩=some (.int .i64 (pl l en b))) (by kernel_rfl) ⟨c4,Y,Z,sc2⟩ (fun d=>?_);refine cB 0 rfl d ?_;simp only [Act.put,amC,amD,amE];refine cB 1 rfl d ?_;simp only [Act.put,amC,amD,amE];refine cB 2 rfl d ?_;simp only [Act.put,amC,amD,amE];refine cB 3 rfl d ?_;simp only [Act.put,amC,amD,amE];refine cB 4 rfl d ?_;simp only [Act.put,amC,amD,amE];refine cB 5 rfl d ?_;simp only [Act.put,amC,amD,amE];refine cB 6 rfl d ?_;simp only [Act.put,amC,amD,amE];refine cB 7 rfl d ?_;simp only [Act.put,amC,amD,amE];refine cB 8 rfl d ?_;simp only [Act.put,amC,amD,amE];refine wpAnyH_ready (rs:=[9]) (by kernel_rfl) (by simp) ?_;refine gM (.s (.s (.s (.s (.s (.s (.s (.s (.s .z))))))))) (fun K hK=>?_);go_simp;refine (OE hF _ n _ b j gY _ t.o.ps.drew (by omega) hn' HW.o HX.o).mono ?_;rintro e w5⟨rfl,hb5⟩;unfold aY;go_wp2_with fail;rw [← y.o];exact⟨rfl,FI.bad rfl (Cz.o.trans ((Below.drew (Below.refl _ _)).trans hb5))⟩
    | ok ks k1 Q =>
     have GO:=O (Xw (by omega) HW.o (show item l en n b (aH j)=some (.ok ks k1 Q) by unfold item;rw [if_pos Q9.o,HI.o];exact HX.o));have go1:=GO.o.lo;have go2:=GO.o.le;have go3:=GO.o.few;rw [dK] at go3
     have Kz:=O (show need l [59] k1 (prog l en n E (k1+1) Q (I ++ [hd ks]))=some r from U.o);clear U;cases i
     all_goals
      dsimp only [EA]
      go_wp2_with fail;have f4:=t.o.ps.blk.frozen 4
      go_region_law ((first
        | (guard_target =~ ((if Region.wanted _ _=true then _ else _:Prop));refine step_append_lies _ (by rfl) _ _ _ (by rfl) (g+1) 3 i0 _ 1 8 Tryz.underlying26 hi0 hz0 hz1 hz2 rfl (by omega) _ q' (intCells I) (by rfl) (G.o.alloc _).row ⟨w5.heap.size,0,none⟩ 1 1 [.int .i64 (hd ks)] (by rfl) (by rfl) (iK _ _ _) (by intro u hu;simp at hu;subst hu;rfl) (by omega) (by simp only [maxLen];omega) (by omega) (by simp;omega) (w5.heap.size+1) (by simp) ?_;intro gg cap w6 F U8 ad7 ah6;have z4:=((G.o.ps.blk.alloc (.cells #[.int .i64 (hd ks)] 3)).grown U8 (fun e=>aW G.o.row G.o.ps.blk (by decide) e.symm)).cell 4;have z6:=(G.o.ps.blk.alloc (.cells #[.int .i64 (hd ks)] 3)).grown U8 (fun e=>aW G.o.row G.o.ps.blk (by decide) e.symm);have z5:=z6.frozen 4;clear z6;have z0:=l6 HD0.o G.o.row U8 (by decide);have y0:=z0.cell 0;have y1:=z0.cell 1;have y2:=z0.cell 2;clear z0)
        | (go_simp;(first | go_at_call 133 | go_at_call 134 | go_at_call 135 | go_at_call 136 | go_at_call 137 | go_at_call 138 | go_at_call 139);refine (OE hF _ n _ b j gY _ t.o.ps.drew (by omega) hn' HW.o HX.o).mono ?_;rintro e w5⟨rfl,ahU,Qx,Sk⟩;have kR:=O Sk;have G:=O (t.o.drew.at_ Sk);have c4:=G.o.ps.blk.cell 4;have f4:=G.o.ps.blk.frozen 4;have d0:=Sk.blk t.o.ps.drew Ra.o.drew (by decide) (by decide);have dc0:=d0.cell 0;have dc1:=d0.cell 1;have dc2:=d0.cell 2;have HD0:=O d0;clear d0;have hz5:=G.o.ps.lt;clear Sk)))
      all_goals
       have M:=O (t.o.more (a:=hd ks) kR.o U8 ad7 F HM4.o);have R:=O M.o.1;have eY:=O (Cz.o.trans M.o.2.1);have L:=O M.o.2.2;clear M F U8 ad7 ah6;have hl5:=kR.o.len;have Y5:=O kR.o.ns;clear kR;rcases dN Kz.o with ⟨Jw,hr7⟩ | ⟨Jw,rfl⟩
       rotate_left
       ·have Y2:=O Jw;clear Jw;go_wp2_with fail;refine (iy g _ l en _ hF [59] (.inr (by decide +kernel)) _ k1 _ _ R.o.ps go2 Y2.o).mono ?_;rintro e w7⟨rfl,uq⟩;unfold aY;go_wp2_with fail;exact⟨rfl,FI.bad rfl (eY.o.trans (uq.mono (amM R.o.ps.lt)))⟩
       have aib:=dR Jw (by simp);have Y2:=O Jw;clear Jw;have Y6:=O hr7;clear hr7;go_wp2_with fail;refine (fO g _ l en _ hF [59] (.inr (by decide +kernel)) _ k1 _ _ R.o.ps go2 Y2.o).mono ?_;rintro e w7⟨rfl,p7,m7⟩;have HRZ:=O (R.o.step p7 m7);have HMZ:=O ((m7.block _ (amI.1 L.o).1 (R.o.ps.qH L.o).1 (R.o.ps.qH L.o).2).trans L.o);have HBZ:=O (eY.o.trans (R.o.ps.low m7));clear p7 m7;go_wp2_with fail
       refine⟨⟨E,k1+1,q'+1,j ++ ahU,Qx,_,I ++ [hd ks],by omega,by rw [hl5];omega,by omega,HRZ,HMZ,O (by rw [Y5.o];exact GO.o.wf),O (by rw [Y5.o];exact Y6.o),HBZ⟩,?_⟩
       rw [HMS.o,HRZ.o.ps.xH];omega
end
end
section
open Go.RowKit Mist
theorem Rz (a b c:Value)(w:World) :
  CallsD Tryz.prog 67 #[a,b,c] .returning w fun e h i=>e=.returned (.tuple #[])∧h=.returning∧i=w:=by
 refine callsD_of_wpS Tryz.func67 rfl fun d cs f=>?_
 apply wpS_seq
 apply wpS_region
 simp [wpOpsS,go_sem,recoverD,f,Tryz.ntmps67,Exit.thenS]
 refine wpS_of_wp ?_;go_wp2;cases d
 simp_all [bodyPostS,results,Tryz.f67]
theorem caught (w:World)(a b c:Nat)(x y z u:Value)(at_:Int)(m:bY w a 28 #[x,y])(i:bY w b 3 #[z])(j:bY w c 32 #[u])(h1:a < b)(h2:b < c) :
  bY ((((w.setCell ⟨a,0,none⟩ (.slice none 0 0)).setCell ⟨a,1,none⟩ (.slice none 0 0)).setCell ⟨b,0,none⟩ (.int .i64 at_)).setCell ⟨c,0,none⟩ (.int .i64 4)) a 28 #[.slice none 0 0,.slice none 0 0] ∧
  bY ((((w.setCell ⟨a,0,none⟩ (.slice none 0 0)).setCell ⟨a,1,none⟩ (.slice none 0 0)).setCell ⟨b,0,none⟩ (.int .i64 at_)).setCell ⟨c,0,none⟩ (.int .i64 4)) b 3 #[.int .i64 at_] ∧
  bY ((((w.setCell ⟨a,0,none⟩ (.slice none 0 0)).setCell ⟨a,1,none⟩ (.slice none 0 0)).setCell ⟨b,0,none⟩ (.int .i64 at_)).setCell ⟨c,0,none⟩ (.int .i64 4)) c 32 #[.int .i64 4] ∧
  Below a w ((((w.setCell ⟨a,0,none⟩ (.slice none 0 0)).setCell ⟨a,1,none⟩ (.slice none 0 0)).setCell ⟨b,0,none⟩ (.int .i64 at_)).setCell ⟨c,0,none⟩ (.int .i64 4)):=by
 have n:=(m.jX 0 (.slice none 0 0)).jX 1 (.slice none 0 0);have r:=(n.far (p:=⟨b,0,none⟩) (by simp;omega) (.int .i64 at_)).far (p:=⟨c,0,none⟩) (by simp;omega) (.int .i64 4);have d:=(i.far (p:=⟨a,0,none⟩) (by simp;omega) (.slice none 0 0)).far (p:=⟨a,1,none⟩) (by simp;omega) (.slice none 0 0);have e:=(d.jX 0 (.int .i64 at_)).far (p:=⟨c,0,none⟩) (by simp;omega) (.int .i64 4);have f:=(j.far (p:=⟨a,0,none⟩) (by simp;omega) (.slice none 0 0)).far (p:=⟨a,1,none⟩) (by simp;omega) (.slice none 0 0);have h:=(f.far (p:=⟨b,0,none⟩) (by simp;omega) (.int .i64 at_)).jX 0 (.int .i64 4);exact⟨by simpa using r,by simpa using e,by simpa using h,gQ (gQ (gQ (gQ (Below.refl _ _) (amL _)) (amL _)) (by omega)) (by omega)⟩
theorem ado (at_:Int)(w:World):(Instr.typeAssert (.iface 128 (.agg #[.int .i64 at_])) 20 128 true).run Tryz.prog w=.ok (.tuple #[.agg #[.int .i64 at_],.bool true]) w:=by kernel_rfl
theorem NH (c b f:Nat)(x y z u:Value)(at_:Int)(a:List PanicEntry)(w:World)(d:bY w c 28 #[x,y])(i:bY w b 3 #[z])(j:bY w f 32 #[u])(h1:c < b)(h2:b < f) :
  CallsD Tryz.prog 67 #[.pointer (some ⟨c,0,none⟩),.pointer (some ⟨b,0,none⟩),.pointer (some ⟨f,0,none⟩)] (.panicking ({ v:=.iface 128 (.agg #[.int .i64 at_]),recovered:=false } :: a)) w fun e F m =>
   e=.returned (.tuple #[])∧F=.panicking ({ v:=.iface 128 (.agg #[.int .i64 at_]),recovered:=true } :: a)∧bY m c 28 #[.slice none 0 0,.slice none 0 0]∧bY m b 3 #[.int .i64 at_]∧bY m f 32 #[.int .i64 4]∧Below c w m:=by
 have G:=ado at_;have K:=d.cell 0;have L:=d.cell 1;have H:=i.cell 0;have I:=j.cell 0;have A:=d.frozen 0;have B:=d.frozen 1;have r:=i.frozen 0;have t:=j.frozen 0;refine callsD_of_wpS Tryz.func67 rfl fun n cs E=>?_
 apply wpS_seq
 apply wpS_region
 simp [wpOpsS,go_sem,recoverD,E,Tryz.ntmps67,Exit.thenS]
 refine wpS_of_wp ?_;have J:=j.lt;have C:=d.lt;have D:=i.lt;go_wp2;go_region
 all_goals
  go_wp2;have h:=caught w c b f x y z u at_ d i j h1 h2
  refine⟨rfl,_,rfl,.tuple #[],by simp [results,Tryz.f67,go_sem],rfl,rfl,?_,?_,?_,?_⟩
  ·exact (h.1.alloc _).drew
  ·exact (h.2.1.alloc _).drew
  ·exact (h.2.2.1.alloc _).drew
  ·exact Below.drew (aU h.2.2.2 (amM h.1.lt))
end
