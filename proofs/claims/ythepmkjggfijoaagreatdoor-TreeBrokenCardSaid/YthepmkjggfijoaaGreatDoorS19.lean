/-
  A part of the proof.
-/
import Derived.Test.YthepmkjggfijoaaGreatDoorSA
import Derived.Defers
import Derived.Recover
import Derived.Test.YthepmkjggfijoaaGreatDoorS16
import Derived.Test.YthepmkjggfijoaaGreatDoorS17
import Derived.Test.YthepmkjggfijoaaGreatDoorS18
set_option linter.all false
set_option maxRecDepth 100000
set_option maxHeartbeats 4000000
namespace Go.Proofs.YthepmkjggfijoaaGreatDoor
open Go.RowKit Mist
attribute [local go_sem] aj aH aS aB ak
section
variable {g:Nat} {tv:Value} {l:List Tok} {en:Int} {iv:Value} (hF:PF l)
include hF
theorem Z8 (m:Nat)(w:World)(k:Nat)(xs:List NV)(nv:Value)(r:j6)(h:PS g tv l en iv w (k+1) xs nv)(hk:k+1≤l.length)(hn:xs.length≤k)(hw:Wf (aA xs))(hr:gI l en m .ask k (aA xs)=some r) :
  Calls Tryz.prog 188 #[.pointer (some ⟨g,0,none⟩),.agg #[.int .u8 (tg l k).kind,.string (aM (tx l k)),.int .i64 (pl l en k)]] w (aR g tv l en iv w xs nv r):=by
 have C:=fun (f:Nat) (_:f≤m) (j:Job) (hj:isFn j=true)=>qd (g:=g) (tv:=tv) (en:=en) (iv:=iv) hF f j hj
 have CL:=fun (f:Nat) (_:f≤m) (e:El)=>pW (g:=g) (tv:=tv) (en:=en) (iv:=iv) hF f e
 have H:=O h;clear h;have oU:=O ((At.refl H.o).alloc (.cells #[.int .u8 (tg l k).kind,.string (aM (tx l k)),.int .i64 (pl l en k)] 68));have zl:=O (aC.new w 68 #[.int .u8 (tg l k).kind,.string (aM (tx l k)),.int .i64 (pl l en k)]);have c:=O hw;clear hw;have hn0:(aA xs).length≤k:=by rw [aD];exact hn
 have i:=hF.len;unfold gI at hr
 have qm:=O hr;clear hr;go_in
 obtain⟨i0,hi0,hz0,hz1,hz2⟩:=info_parts gN;have Ea:=qm.o;unfold wT at Ea;have L:=O Ea;clear Ea
 go_wp2_with fail;refine (O9 _).mono ?_;rintro e w2⟨rfl,rfl⟩;have I:=heap_alloc_new (w.alloc (.cells #[.int .u8 (tg l k).kind,.string (aM (tx l k)),.int .i64 (pl l en k)] 68)) (.map (jF EL 0).toArray 8);rw [show (w.alloc (.cells #[.int .u8 (tg l k).kind,.string (aM (tx l k)),.int .i64 (pl l en k)] 68)).heap.size=w.heap.size+1 by simp] at I;have HM:=O I;clear I
 have eY:=O (zl.o.alloc (.map (jF EL 0).toArray 8));clear zl;have B:=O (oU.o.alloc (.map (jF EL 0).toArray 8));clear oU;go_wp2_with fail;refine (h_ g tv l en iv _ (k+1) _ _ B.o.ps (by omega) i).mono ?_;rintro e w3⟨rfl,x⟩;have qj:=O ((x.block _ (aaG.1 HM.o).1).trans HM.o);have iG:=O (eY.o.below x eY.o.lt);clear eY;have F:=O (B.o.below x);clear B;clear x;have X:=aap _ _ _ qj.o (tx l (k+1));have tf1:=mQ;obtain⟨Q,hQ⟩:∃ Q,Q=gy (tx l (k+1)):=⟨_,rfl⟩;rw [← hQ] at X
 have Qs:=L.o;rw [← hQ] at Qs
 have hQ8:Q≤8:=by rw [hQ];unfold gy;(repeat' split) <;> omega
 have hQt:Q ≠ 0→k+1 < l.length:=fun h=>aP (s:=tx l (k+1)) rfl (fun e9=>h (by rw [hQ,e9];rfl))
 clear hQ;rcases gG Qs with ⟨d,RY⟩ | ⟨d,RY⟩
 all_goals clear Qs
 ·skip;obtain rfl:j6.bad (k+1)=r:=aaP RY;subst d;have Y:(((0:Nat):Int) == 0)=true:=rfl;go_wp2_with fail;refine (sJ g tv l en iv _ (k+1) _ _ F.o.ps (by omega) i).mono ?_;rintro e wq⟨rfl,hbq⟩
  (try unfold aI)
  go_wp2_with fail;exact⟨rfl,aR.bad rfl ((H.o.low F.o.mv).trans (hbq.mono (aaK F.o.ps.lt)))⟩
 ·skip;have hlt20:=hQt d;have HRQ:=O RY;clear RY;have Y:((Q:Int) == 0)=false:=by simp;omega
  go_wp2_with fail;refine (nO g tv l en iv _ (k+1) _ _ F.o.ps (by omega) i).mono ?_;rintro e w4⟨rfl,p4,m4⟩;clear X Y;have A:=O (F.o.ps.aU m4 iG.o);clear iG;have a:=O (F.o.step p4 m4);clear F;clear p4 m4;rcases gG HRQ.o with ⟨Mg,T⟩ | ⟨Mg,T⟩
  ·skip;subst Mg;have E:=O T;clear T;obtain rfl:=dV E.o;have fH:=A.o.cell 0;have fQ:=A.o.cell 1;have fT:=A.o.cell 2;have sl0:=A.o.lt;go_wp2_with fail;refine (gB g tv l en iv (aA xs).length 46 _ _ _ [] 7 _ [] _ ((k+1)+1) _ _ a.o.ps (cB.none_ _) a.o.len (by omega)).mono ?_;rintro e w5⟨rfl,Fu,p5,m5⟩;have rM:=O (a.o.add p5 m5 (by intro b v;simp [Value.ownBlock] at v));clear p5 m5;go_wp2_with fail;go_ret;exact aR.ok rfl rM.o
  ·skip;rcases gG T with ⟨Mh,U⟩ | ⟨Mh,U⟩
   all_goals clear T
   ·skip;subst Mh;have E:=O U;clear U;rcases dW E.o with ⟨ks6,k6,ns6,n,Ul⟩ | ⟨kb6,n,rfl⟩
    rotate_left
    ·have t:=O n;clear n;go_wp2_with fail;refine (CL m (aaJ _) .expr _ ((k+1)+1) _ _ _ a.o.ps (by omega) (by rw [a.o.len];omega) (by rw [a.o.ns];exact c.o) (by rw [a.o.ns];exact t.o)).mono ?_;rintro e w6⟨rfl,hb6⟩
     (try unfold aI)
     go_wp2_with fail;exact⟨rfl,aR.bad rfl ((H.o.low a.o.mv).trans hb6)⟩
    have t:=O n;clear n;have Lu:=O Ul;clear Ul E;go_wp2_with fail;refine (CL m (aaJ _) .expr _ ((k+1)+1) _ _ _ a.o.ps (by omega) (by rw [a.o.len];omega) (by rw [a.o.ns];exact c.o) (by rw [a.o.ns];exact t.o)).mono ?_;rintro e w6⟨v6,ext6,XB,rfl,J,G,hd6⟩;have M:=O (kI (base':=w.heap.size) J (fun b v=>Nat.le_trans a.o.mv.size (J.lt b v).1));clear J hd6;have V:=O (aW t.o (by omega) c.o (Ids.nil _) (by simp));have gl6:=V.o.lo;have gf6:=V.o.few;have ge6:=V.o.le;have gn6:=V.o.len;simp only [Job.reads] at gl6
    have n_:=O (G.blk a.o.ps A.o (by decide) (by decide));clear A;have HWF6:=O V.o.wf;have ow:=O (a.o.trans G);clear a;clear G;obtain rfl:=dV Lu.o;have fH:=n_.o.cell 0;have fQ:=n_.o.cell 1;have fT:=n_.o.cell 2;have sl0:=n_.o.lt;go_wp2_with fail;refine (gB g tv l en iv ns6.length 46 _ _ _ [] 8 _ ks6 _ k6 _ _ ow.o.ps (kI M.o (fun _ _=>aaL _)) ow.o.len (by omega)).mono ?_;rintro e w7⟨rfl,nv7,p7,m7⟩;have rM:=O (ow.o.add p7 m7 (fun b v=>(M.o.lt b v).1));clear p7 m7;go_wp2_with fail;go_ret;exact aR.ok rfl rM.o
   ·skip;have E:=O U;clear U;have u7:((Q:Int) == 7)=false:=by simp;omega
    have u8:((Q:Int) == 8)=false:=by simp;omega
    have D:=O (show w4.ownsRow w.heap.size 3 1 (.slice none 0 0) 0 (intCells []) from World.ownsRow_nil _ _ _ _);have HQN:=O (show ([]:List Int).length=0 from rfl);have YB:=O (ne_nil (ext:=[]));rcases dW E.o with ⟨P,k8,ns8,K,Oy⟩ | ⟨kb8,K,rfl⟩
    rotate_left
    ·have LJ:=O K;clear K;go_wp2_with fail;refine (C m (aaJ _) .expr rfl _ ((k+1)+1) _ _ _ a.o.ps (by omega) (by rw [a.o.len];omega) (by rw [a.o.ns];exact c.o) (by rw [a.o.ns];exact LJ.o)).mono ?_;rintro e w8⟨rfl,tZ⟩
     (try unfold aI)
     go_wp2_with fail;exact⟨rfl,aR.bad rfl ((H.o.low a.o.mv).trans tZ)⟩
    have LJ:=O K;clear K;have U5:=O Oy;clear Oy E;go_wp2_with fail;refine (C m (aaJ _) .expr rfl _ ((k+1)+1) _ _ _ a.o.ps (by omega) (by rw [a.o.len];omega) (by rw [a.o.ns];exact c.o) (by rw [a.o.ns];exact LJ.o)).mono ?_;rintro e w8⟨rfl,ext8,V_,S⟩;have R:=O (aW LJ.o (by omega) c.o (Ids.nil _) (by simp));have gl8:=R.o.lo;have gf8:=R.o.few;have ge8:=R.o.le;have gn8:=R.o.len;simp only [Job.reads] at gl8
    have uO:=O (S.blk a.o.ps A.o (by decide) (by decide));clear A;have Yz:=O (uj YB.o S.fresh (fun b v=>(D.o.lt b v).2));clear YB;have Bw:=O (a.o.ps.iI S.mv D.o (by decide) (by decide));clear D;have Nz:=O R.o.wf;have zL:=O (a.o.trans S);clear a;clear S
    go_wp2_with (at_builtin
                 refine wpList_append_lies _ rfl (.tmp 19) (.tmp 22) 24 rfl w.heap.size 3 i0 _ 1 8 Tryz.underlying24 hi0 hz0 hz1 hz2 rfl (by decide) _ 0 (intCells []) rfl
                   (Bw.o.alloc _) ⟨w8.heap.size,0,none⟩ 1 1 [.int .i64 (hd P)] rfl rfl (iP _ _ _) (by intro u hu;simp at hu;subst hu;rfl) (by omega) (by simp only [maxLen];omega) (by omega) (by have:=zL.o.mv.size;simp;omega) (w8.heap.size+1) (by simp) ?_
                 intro gg9 Zg w9 Oo y Zx W;have FI:=fZ uO.o Bw.o y (by decide);have UE:=FI.cell 0;have UF:=FI.cell 1;have UG:=FI.cell 2;have szl0:=FI.lt)
    have YA:=O (qG zL.o.ps Yz.o Zx (0+1) Zg);clear Zx;have l9:=O (fZ uO.o Bw.o y (by decide));have vK:=O ((zL.o.alloc (.cells #[.int .i64 (hd P)] 3)).grown H.o Bw.o (by decide) y Yz.o);have N:=O (show w9.ownsRow w.heap.size 3 1 (.slice (some ⟨gg9,0,none⟩) (0+1) Zg) (0+1) (intCells ([] ++ [hd P])) by rw [eT];exact Oo);clear Oo;have HQ9:=O (show ([] ++ [hd P]).length=0+1 by rw [aaO,HQN.o];rfl);clear y W;obtain rfl:=dV U5.o;have fH:=l9.o.cell 0;have fQ:=l9.o.cell 1;have fT:=l9.o.cell 2;have sl0:=l9.o.lt;refine (gB g tv l en iv ns8.length 46 _ _ _ [] (Q:Int) _ ([] ++ [hd P]) _ k8 _ _ vK.o.ps (Hy HQ9.o N.o) vK.o.len (by omega)).mono ?_;rintro e Qv⟨rfl,nv10,p10,Z⟩;have rM:=O (vK.o.add p10 Z (fun b v=>(N.o.lt b v).1));clear p10 Z;go_wp2_with fail;go_ret;exact aR.ok rfl rM.o
end
end Go.Proofs.YthepmkjggfijoaaGreatDoor
namespace Go.Proofs.YthepmkjggfijoaaGreatDoor
open Go.RowKit Mist
section
variable {g:Nat} {tv:Value} {l:List Tok} {en:Int} {iv:Value} (hF:PF l)
include hF
theorem OE (i:It)(m:Nat)(w:World)(k:Nat)(xs:List NV)(nv:Value)(r:j6)(h:PS g tv l en iv w (k+1) xs nv)(a:k+1≤l.length)(b:xs.length≤k)(d:Wf (aA xs))(c:gI l en m i k (aA xs)=some r) :
  Calls Tryz.prog (Fe i) #[.pointer (some ⟨g,0,none⟩),.agg #[.int .u8 (tg l k).kind,.string (aM (tx l k)),.int .i64 (pl l en k)]] w (aR g tv l en iv w xs nv r):=by
 cases i with
 | choose=>exact OG hF m w k xs nv r h a b d c
 | record=>exact OH hF m w k xs nv r h a b d c
 | zu=>exact VR hF m w k xs nv r h a b d c
 | yB=>exact VT hF m w k xs nv r h a b d c
 | observe=>exact Mr hF m w k xs nv r h a b d c
 | kW=>exact Ms hF m w k xs nv r h a b d c
 | ask=>exact Z8 hF m w k xs nv r h a b d c
end
theorem Qi (w:World):(zeroValue 145).run Tryz.prog w=.ok .nilFunc w:=by kernel_rfl
theorem V5 (w:World)(m c:Nat)(a:w.heap[m]? = some (.map (jF Ci 0).toArray c))(x:Bs):(Instr.lookup 141 (.map (some m)) (.string (aM x)) true).run Tryz.prog w=.ok (.tuple #[((Hr x).map fun i=>fv (Fe i)).getD .nilFunc,.bool (Hr x).isSome]) w:=by
 have h:=Ic 141 145 .nilFunc Tryz.underlying141 w (Qi w) Ci m c a x true;rw [h,Z6];simp
structure PR (g:Nat) (tv:Value) (l:List Tok) (en:Int) (iv:Value) (w:World) (k:Nat) (xs:List NV) (nv:Value) (its:List Int) (q:Nat):Prop where
 ps:PS g tv l en iv w k xs nv
 len:its.length=q
 row:w.ownsRow (g+1) 3 1 iv q (intCells its)
 ne:∀ x ∈ xs,x.2.ownBlock=none∨x.2.ownBlock ≠ iv.ownBlock
 far:∀ x ∈ xs,∀ b,x.2.ownBlock=some b→g < b
section
variable {g:Nat} {tv:Value} {l:List Tok} {en:Int} {iv:Value} {w w1 w2:World} {k k1:Nat} {xs ext:List NV} {nv gW:Value} {its:List Int} {q:Nat}
theorem PR.below (h:PR g tv l en iv w k xs nv its q)(a:Below w.heap.size w w1):PR g tv l en iv w1 k xs nv its q :=
 ⟨h.ps.below a,h.len,own_below h.row a,h.ne,h.far⟩
theorem PR.alloc (h:PR g tv l en iv w k xs nv its q)(o:Obj):PR g tv l en iv (w.alloc o) k xs nv its q:=h.below ((Below.refl _ _).alloc (aaJ _) o)
theorem PR.drew (h:PR g tv l en iv w k xs nv its q):PR g tv l en iv w.drew k xs nv its q:=h.below (Below.drew (Below.refl _ _))
theorem PR.step (h:PR g tv l en iv w k xs nv its q)(p:PS g tv l en iv w1 k1 xs nv)(m:Mv g nv.ownBlock w nv.ownBlock w1):PR g tv l en iv w1 k1 xs nv its q :=
 ⟨p,h.len,h.ps.iI m h.row (by decide) (by decide),h.ne,h.far⟩
theorem PR.at_ {e:List Nd}(h:PR g tv l en iv w k xs nv its q)(a:At g tv l en iv w xs nv k1 e w1 ext gW):PR g tv l en iv w1 k1 (xs ++ ext) gW its q :=
 ⟨a.ps,h.len,h.ps.iI a.mv h.row (by decide) (by decide),uj h.ne a.fresh (fun b d=>(h.row.lt b d).2),fun x c b d=>by
  rcases List.mem_append.1 c with c | c
  ·exact h.far x c b d
  ·have:=a.fresh x c b d;have:=h.ps.lt;omega⟩
theorem PR.grown {o:Obj}{a:Int}{f cap:Nat}(h:PR g tv l en iv w k xs nv its q)(t:(w.alloc o).grownBy w2 iv.ownBlock)(j:iv.ownBlock=some f∨f=w.heap.size+1)
  (d:w2.ownsRow (g+1) 3 1 (.slice (some ⟨f,0,none⟩) (q+1) cap) (q+1) (intCells its ++ [.int .i64 a])) :
  PR g tv l en (.slice (some ⟨f,0,none⟩) (q+1) cap) (w2.setCell ⟨g,4,none⟩ (.slice (some ⟨f,0,none⟩) (q+1) cap)) k xs nv (its ++ [a]) (q+1):=by
 have p:=(h.ps.alloc o).grown t (fun b i=>by
  have r:=h.row.lt b i
  refine⟨by omega,fun e=>?_,fun x n e=>?_⟩
  ·rcases iE h.row h.ps.own (by decide) with c | c
   ·rw [i] at c;cases c
   ·exact c (i.trans e.symm)
  ·rcases h.ne x n with c | c
   ·rw [e] at c;cases c
   ·exact c (e.trans i.symm))
 have m:Mv g nv.ownBlock w2 nv.ownBlock (w2.setCell ⟨g,4,none⟩ (.slice (some ⟨f,0,none⟩) (q+1) cap)):=Mv.d_ p.blk 4 _
 refine⟨⟨(by have:=p.blk.d_ 4 (.slice (some ⟨f,0,none⟩) (q+1) cap);simpa using this),ownsRow_setCell_other p.own (aT p.own p.blk (by decide)) _,fun x n=>p.l6 m (p.kids x n),p.toks.below (p.low m),rY p.env (p.low m)⟩,by rw [aaO,h.len];rfl,?_,qG (xs:=[]) h.ps h.ne j _ _,h.far⟩
 rw [eT];exact ownsRow_setCell_other d (aT d p.blk (by decide)) _
theorem PR.low {o:Obj}{u:Value}{i:Nat}(h:PR g tv l en iv w k xs nv its q)(c:(w.alloc o).grownBy w2 iv.ownBlock):Below g w (w2.setCell ⟨g,i,none⟩ u) :=
 dx (((Below.refl _ _).alloc (aaK h.ps.lt) o).grown c (by have:=h.ps.lt;simp;omega) (fun b a=>by have:=(h.row.lt b a).1;omega)) (aaJ _)
theorem PR.more {r h i:World}{C:List Nd}{o:Obj}{a:Int}{d cap b c:Nat}{n:Array MapEntry}(h4:PR g tv l en iv r k xs nv its q)(t:At g tv l en iv r.drew xs nv k1 C h ext gW)(v:(h.alloc o).grownBy i iv.ownBlock)(u:iv.ownBlock=some d∨d=h.heap.size+1)
  (m:i.ownsRow (g+1) 3 1 (.slice (some ⟨d,0,none⟩) (q+1) cap) (q+1) (intCells its ++ [.int .i64 a])) (E:r.heap[b]? = some (.map n c)) :
  PR g tv l en (.slice (some ⟨d,0,none⟩) (q+1) cap) (i.setCell ⟨g,4,none⟩ (.slice (some ⟨d,0,none⟩) (q+1) cap)) k1 (xs ++ ext) gW (its ++ [a]) (q+1)∧Below g r (i.setCell ⟨g,4,none⟩ (.slice (some ⟨d,0,none⟩) (q+1) cap))∧(i.setCell ⟨g,4,none⟩ (.slice (some ⟨d,0,none⟩) (q+1) cap)).heap[b]? = some (.map n c):=by
 have h5:=h4.drew.at_ t;have f:h.heap[b]? = some (.map n c):=t.map h4.drew.ps E;have j:(h.alloc o).heap[b]? = some (.map n c):=gT f _;have x:b < (h.alloc o).heap.size:=(aaG.1 j).1
 refine⟨h5.grown v u m,(((Below.drew (Below.refl _ _)).trans (h4.drew.ps.low t.mv)).trans (h5.low v)),?_⟩
 have y:some b ≠ iv.ownBlock:=by
  intro e;rcases h5.row.2 with ⟨hv,_⟩ | ⟨F,cap,D,hv,_,B,_⟩
  ·rw [hv] at e;simp [Value.ownBlock] at e
  ·rw [hv] at e;simp [Value.ownBlock] at e
   rw [← e,f] at B;cases B
 have A:b ≠ g:=(h5.ps.jd f).1;exact (Below.heap_setCell i ⟨g,4,none⟩ _ b (by simpa using A)).trans ((v.block b x y).trans j)
end
end Go.Proofs.YthepmkjggfijoaaGreatDoor
namespace Go.Proofs.YthepmkjggfijoaaGreatDoor
open Go.RowKit Mist
attribute [local go_sem] aj aH aS aB ak
def Gf (g:Nat)(tv:Value)(l:List Tok)(en:Int)(w:World)(r:j6)(e:Ending)(w':World):Prop :=
 match r with
 | .ok its k ns=>(∃ v,e=.returned v)∧(∃ xs nv iv q,PR g tv l en iv w' k xs nv its q∧aA xs=ns)∧Below g w w'
 | .bad k=>e=aI l en k∧Below g w w'
theorem Gf.bad {g:Nat}{tv:Value}{l:List Tok}{en:Int}{w w1:World}{k:Nat}{e:Ending}(b:e=aI l en k)(a:Below g w w1):Gf g tv l en w (.bad k) e w1:=⟨b,a⟩
section
variable {g:Nat} {tv:Value} {l:List Tok} {en:Int} (hF:PF l)
include hF
theorem O5 (n f:Nat)(w:World)(k q:Nat)(xs:List NV)(nv iv:Value)(its:List Int)(r:j6)(h:PR g tv l en iv w k xs nv its q)(hk:k≤l.length)(hn:xs.length≤k)(hq:q≤k)(hw:Wf (aA xs))(hr:prog l en n f k (aA xs) its=some r) :
  Calls Tryz.prog 93 #[.pointer (some ⟨g,0,none⟩)] w (Gf g tv l en w r):=by
 obtain⟨A,c,rfl,hlc,_⟩:=h.ps.toks;obtain⟨i0,hi0,hz0,hz1,hz2⟩:=info_parts gN;have H:=O h;clear h;have HW0:=O hw;clear hw;have HP0:=O hr;clear hr;have B:=hF.len;have hgl:=H.o.ps.lt;go_in
 go_wp2_with fail;refine (VU _).mono ?_;rintro e w1⟨rfl,rfl⟩;have Yx:=O (heap_alloc_new w (.map (jF Ci 0).toArray 7));have H1:=O (H.o.alloc (.map (jF Ci 0).toArray 7));have HB0:=O (ah (Below.refl g w) (aaK hgl) (o:=.map (jF Ci 0).toArray 7));go_wp2_with fail;go_loopw [3] (fun bv wr=>∃ (F b q':Nat) (j:List NV) (eO AY:Value) (I:List Int),b≤l.length∧j.length≤b∧q'≤b∧Hid (PR g (.slice A l.length c) l en AY wr b j eO I q')∧Hid (wr.heap[w.heap.size]? = some (.map (jF Ci 0).toArray 7))∧Hid (Wf (aA j))∧Hid (prog l en n F b (aA j) I=some r)∧Hid (Below g w wr)) (fun _ wr=>nG g l.length wr)
 case atStart=>exact⟨f,k,q,xs,nv,iv,its,hk,hn,hq,H1,Yx,HW0,HP0,HB0⟩
 case round =>
  clear Yx H1 HB0 HP0 HW0 hk hn hq;obtain⟨F,b,q',j,eO,AY,I,hk',hn',hq',N,HM,HW,HP,HB⟩:=hrel
  obtain⟨F,rfl⟩:∃ f0,F=f0+1:=⟨F - 1,by
   rcases Nat.eq_zero_or_pos F with h | h
   ·subst h;have:=HP.o;rw [prog] at this;cases this
   ·omega⟩
  have Lp:=O (N.o.ps.nG (n:=l.length));have c0:=N.o.ps.blk.cell 0;have c2:=N.o.ps.blk.cell 2;have hgr:=N.o.ps.lt;by_cases hkl:b < l.length
  case neg =>
   have y:=O (show r=.ok I b (aA j) by have:=HP.o;rw [prog,if_neg hkl] at this;exact (aaP this).symm);have d1:decide ((b:Int) < (l.length:Int))=false:=aaV (by omega);have d2:decide (b < l.length)=false:=aaV (by omega);go_wp2_with fail;go_quiet (fail)
   go_wp2_with fail;refine bodyPost_ret (v:=.tuple #[]) (by simp [results,Tryz.f93,go_sem]) rfl ?_;rw [y.o];exact⟨⟨_,rfl⟩,⟨_,_,_,_,N.o.below (gU (Below.refl _ _) _),rfl⟩,gU HB.o _⟩
  case pos =>
   have xE:=O (show thn (item l en n b (aA j)) (fun a k1 Q=>need l [59] k1 <| prog l en n F (k1+1) Q (I ++ [hd a]))=some r by have:=HP.o;rw [prog,if_pos hkl] at this;exact this);clear HP;have d1:decide ((b:Int) < (l.length:Int))=true:=aaU (by omega);have d2:decide (b < l.length)=true:=aaU (by omega);go_wp2_with fail;go_quiet (fail)
   clear d1 d2 c0 c2;go_wp2_with fail;refine (h_ g _ l en AY _ b _ _ (N.o.below (gU (Below.refl _ _) _)).ps (by omega) B).mono ?_;rintro e w2⟨rfl,P⟩;have U:=O ((N.o.below (gU (Below.refl _ _) _)).below P);have X:=HM.o;have hms:w.heap.size < wr.heap.size:=(aaG.1 X).1;have qj:=O ((P.block w.heap.size hms).trans X);clear X;have HB2:=O ((gU HB.o _).trans (P.mono (aaK N.o.ps.lt)));clear P N HM HB;have Dw:=O (aC.new w2 68 #[.int .u8 (tg l b).kind,.string (aM (tx l b)),.int .i64 (pl l en b)]);have m:=O (U.o.alloc (.cells #[.int .u8 (tg l b).kind,.string (aM (tx l b)),.int .i64 (pl l en b)] 68));have Jg:=O (gT qj.o (.cells #[.int .u8 (tg l b).kind,.string (aM (tx l b)),.int .i64 (pl l en b)] 68));have J:=O (ah HB2.o (aaK U.o.ps.lt) (o:=(.cells #[.int .u8 (tg l b).kind,.string (aM (tx l b)),.int .i64 (pl l en b)] 68)));have D:=V5 _ _ _ Jg.o (tx l b);have Y:=Dw.o.cell 0;have Z:=Dw.o.cell 1;have sc2:=Dw.o.cell 2;have slt:=Dw.o.lt;clear U qj HB2;rcases hi:Hr (tx l b) with _ | i
   ·rw [hi] at D
    simp only [Option.map_none,Option.getD_none,Option.isSome_none] at D
    have y:=O (show j6.bad b=r by
     have h9:=xE.o;have e9:item l en n b (aA j)=some (.bad b):=by unfold item;split <;> simp [hi]
     rw [e9] at h9;exact aaP h9)
    clear hi;go_wp2_with fail;refine (sJ g _ l en AY _ b _ _ m.o.ps (by omega) B).mono ?_;rintro e wq⟨rfl,W⟩;go_wp2_with fail;rw [← y.o];exact⟨rfl,Gf.bad rfl (J.o.trans (W.mono (aaK m.o.ps.lt)))⟩
   have HI:=O hi;rw [hi] at D
   simp only [Option.map_some,Option.getD_some,Option.isSome_some] at D
   unfold fv at D
   clear hi;by_cases C:(tg l b).kind=3
   case neg =>
    have n3:(((tg l b).kind:Int) != 3)=true:=by simp [bne];omega
    have y:=O (show j6.bad b=r by
     have h9:=xE.o;have e9:item l en n b (aA j)=some (.bad b):=by unfold item;rw [if_neg C]
     rw [e9] at h9;exact aaP h9)
    clear C;go_wp2_with fail;refine (sJ g _ l en AY _ b _ _ m.o.ps (by omega) B).mono ?_;rintro e wq⟨rfl,W⟩;go_wp2_with fail;rw [← y.o];exact⟨rfl,Gf.bad rfl (J.o.trans (W.mono (aaK m.o.ps.lt)))⟩
   case pos =>
    have n3:(((tg l b).kind:Int) != 3)=false:=by rw [C];rfl
    have R:=O (show thn (gI l en n i b (aA j)) (fun a k1 Q=>need l [59] k1 <| prog l en n F (k1+1) Q (I ++ [hd a]))=some r by
     have h9:=xE.o;have e9:item l en n b (aA j)=gI l en n i b (aA j):=by unfold item;rw [if_pos C,HI.o]
     rw [e9] at h9;exact h9)
    have HK3:=O C;clear C xE;go_wp2_with fail;refine (nO g _ l en AY _ b _ _ m.o.ps (by omega) B).mono ?_;rintro e w4⟨rfl,p4,m4⟩;clear D n3 Y Z sc2 slt;have t:=O (m.o.step p4 m4);have Ev:=O ((m4.block _ (aaG.1 Jg.o).1 (m.o.ps.jd Jg.o).1 (m.o.ps.jd Jg.o).2).trans Jg.o);have tO:=O (J.o.trans (m.o.ps.low m4));have E8:=O (m.o.ps.aU m4 Dw.o);clear p4 m4 m Jg J Dw;have c4:=t.o.ps.blk.cell 4;have Y:=E8.o.cell 0;have Z:=E8.o.cell 1;have sc2:=E8.o.cell 2;have slt:=E8.o.lt;have hl4:=t.o.ps.lt;rcases hx:gI l en n i b (aA j) with _ | x
    ·have:=R.o;rw [hx] at this;cases this
    have HX:=O hx;clear hx;have T:=O (show thn (some x) (fun a k1 Q=>need l [59] k1 <| prog l en n F (k1+1) Q (I ++ [hd a]))=some r by have:=R.o;rw [HX.o] at this;exact this);clear R
    cases x with
    | bad kb =>
     have y:=O (show j6.bad kb=r from aaP T.o);cases i
     all_goals
      dsimp only [Fe]
      go_wp2_with fail;refine wp_region_held_drew (S:=fun w'=>w'.cell? ⟨g,4,none⟩=some AY∧w'.cell? ⟨w2.heap.size,0,none⟩=some (.int .u8 (tg l b).kind)∧w'.cell? ⟨w2.heap.size,1,none⟩=some (.string (aM (tx l b)))∧w'.cell? ⟨w2.heap.size,2,none⟩=some (.int .i64 (pl l en b))) (by kernel_rfl) ⟨c4,Y,Z,sc2⟩ (fun d=>?_);refine bf 0 rfl d ?_;simp only [Act.put,aaA,aaB,aaC];refine bf 1 rfl d ?_;simp only [Act.put,aaA,aaB,aaC];refine bf 2 rfl d ?_;simp only [Act.put,aaA,aaB,aaC];refine bf 3 rfl d ?_;simp only [Act.put,aaA,aaB,aaC];refine bf 4 rfl d ?_;simp only [Act.put,aaA,aaB,aaC];refine bf 5 rfl d ?_;simp only [Act.put,aaA,aaB,aaC];refine bf 6 rfl d ?_;simp only [Act.put,aaA,aaB,aaC];refine bf 7 rfl d ?_;simp only [Act.put,aaA,aaB,aaC];refine bf 8 rfl d ?_;simp only [Act.put,aaA,aaB,aaC];refine wpAnyH_ready (rs:=[9]) (by kernel_rfl) (by simp) ?_;refine fJ (.s (.s (.s (.s (.s (.s (.s (.s (.s .z))))))))) (fun K hK=>?_);go_simp;refine (OE hF _ n _ b j eO _ t.o.ps.drew (by omega) hn' HW.o HX.o).mono ?_;rintro e w5⟨rfl,hb5⟩;unfold aI;go_wp2_with fail;rw [← y.o];exact⟨rfl,Gf.bad rfl (tO.o.trans ((Below.drew (Below.refl _ _)).trans hb5))⟩
    | ok ks k1 Q =>
     have GO:=O (u6 (by omega) HW.o (show item l en n b (aA j)=some (.ok ks k1 Q) by unfold item;rw [if_pos HK3.o,HI.o];exact HX.o));have go1:=GO.o.lo;have go2:=GO.o.le;have go3:=GO.o.few;rw [aD] at go3
     have Jf:=O (show need l [59] k1 (prog l en n F (k1+1) Q (I ++ [hd ks]))=some r from T.o);clear T;cases i
     all_goals
      dsimp only [Fe]
      go_wp2_with fail;have f4:=t.o.ps.blk.frozen 4
      go_region_law ((first
        | (guard_target =~ ((if Region.wanted _ _=true then _ else _:Prop));refine step_append_lies _ (by rfl) _ _ _ (by rfl) (g+1) 3 i0 _ 1 8 Tryz.underlying24 hi0 hz0 hz1 hz2 rfl (by omega) _ q' (intCells I) (by rfl) (E.o.alloc _).row ⟨w5.heap.size,0,none⟩ 1 1 [.int .i64 (hd ks)] (by rfl) (by rfl) (iP _ _ _) (by intro u hu;simp at hu;subst hu;rfl) (by omega) (by simp only [maxLen];omega) (by omega) (by simp;omega) (w5.heap.size+1) (by simp) ?_;intro gg cap w6 G vN xC z8;have z4:=((E.o.ps.blk.alloc (.cells #[.int .i64 (hd ks)] 3)).grown vN (fun e=>aT E.o.row E.o.ps.blk (by decide) e.symm)).cell 4;have z6:=(E.o.ps.blk.alloc (.cells #[.int .i64 (hd ks)] 3)).grown vN (fun e=>aT E.o.row E.o.ps.blk (by decide) e.symm);have z5:=z6.frozen 4;clear z6;have z0:=fZ HD0.o E.o.row vN (by decide);have y0:=z0.cell 0;have y1:=z0.cell 1;have y2:=z0.cell 2;clear z0)
        | (go_simp;(first | go_at_call 182 | go_at_call 183 | go_at_call 184 | go_at_call 185 | go_at_call 186 | go_at_call 187 | go_at_call 188);refine (OE hF _ n _ b j eO _ t.o.ps.drew (by omega) hn' HW.o HX.o).mono ?_;rintro e w5⟨rfl,ext5,Fu,RO⟩;have jX:=O RO;have E:=O (t.o.drew.at_ RO);have c4:=E.o.ps.blk.cell 4;have f4:=E.o.ps.blk.frozen 4;have d0:=RO.blk t.o.ps.drew E8.o.drew (by decide) (by decide);have dc0:=d0.cell 0;have dc1:=d0.cell 1;have dc2:=d0.cell 2;have HD0:=O d0;clear d0;have Z4:=E.o.ps.lt;clear RO)))
      all_goals
       have M:=O (t.o.more (a:=hd ks) jX.o vN xC G Ev.o);have V:=O M.o.1;have dA:=O (tO.o.trans M.o.2.1);have L:=O M.o.2.2;clear M G vN xC z8;have hl5:=jX.o.len;have rC:=O jX.o.ns;clear jX;rcases dO Jf.o with ⟨D9,ZP⟩ | ⟨D9,rfl⟩
       rotate_left
       ·have Qk:=O D9;clear D9;go_wp2_with fail;refine (gQ g _ l en _ hF [59] (.inr (by decide +kernel)) _ k1 _ _ V.o.ps go2 Qk.o).mono ?_;rintro e w7⟨rfl,nI⟩;unfold aI;go_wp2_with fail;exact⟨rfl,Gf.bad rfl (dA.o.trans (nI.mono (aaK V.o.ps.lt)))⟩
       have hlt7:=aP D9 (by simp);have Qk:=O D9;clear D9;have HR7:=O ZP;clear ZP;go_wp2_with fail;refine (eZ g _ l en _ hF [59] (.inr (by decide +kernel)) _ k1 _ _ V.o.ps go2 Qk.o).mono ?_;rintro e w7⟨rfl,p7,m7⟩;have HRZ:=O (V.o.step p7 m7);have HMZ:=O ((m7.block _ (aaG.1 L.o).1 (V.o.ps.jd L.o).1 (V.o.ps.jd L.o).2).trans L.o);have HBZ:=O (dA.o.trans (V.o.ps.low m7));clear p7 m7;go_wp2_with fail
       refine⟨⟨F,k1+1,q'+1,j ++ ext5,Fu,_,I ++ [hd ks],by omega,by rw [hl5];omega,by omega,HRZ,HMZ,O (by rw [rC.o];exact GO.o.wf),O (by rw [rC.o];exact HR7.o),HBZ⟩,?_⟩
       rw [Lp.o,HRZ.o.ps.nG];omega
end
end Go.Proofs.YthepmkjggfijoaaGreatDoor
namespace Go.Proofs.YthepmkjggfijoaaGreatDoor
open Go.RowKit Mist
theorem Ro (a b c:Value)(w:World) :
  CallsD Tryz.prog 92 #[a,b,c] .returning w fun e h i=>e=.returned (.tuple #[])∧h=.returning∧i=w:=by
 refine callsD_of_wpS Tryz.func92 rfl fun d cs f=>?_
 apply wpS_seq
 apply wpS_region
 simp [wpOpsS,go_sem,recoverD,f,Tryz.ntmps92,Exit.thenS]
 refine wpS_of_wp ?_;go_wp2;cases d
 simp_all [bodyPostS,results,Tryz.f92]
theorem caught (w:World)(a b c:Nat)(x y z u:Value)(at_:Int)(m:aC w a 26 #[x,y])(i:aC w b 3 #[z])(j:aC w c 27 #[u])(h1:a < b)(h2:b < c) :
  aC ((((w.setCell ⟨a,0,none⟩ (.slice none 0 0)).setCell ⟨a,1,none⟩ (.slice none 0 0)).setCell ⟨b,0,none⟩ (.int .i64 at_)).setCell ⟨c,0,none⟩ (.int .i64 4)) a 26 #[.slice none 0 0,.slice none 0 0] ∧
  aC ((((w.setCell ⟨a,0,none⟩ (.slice none 0 0)).setCell ⟨a,1,none⟩ (.slice none 0 0)).setCell ⟨b,0,none⟩ (.int .i64 at_)).setCell ⟨c,0,none⟩ (.int .i64 4)) b 3 #[.int .i64 at_] ∧
  aC ((((w.setCell ⟨a,0,none⟩ (.slice none 0 0)).setCell ⟨a,1,none⟩ (.slice none 0 0)).setCell ⟨b,0,none⟩ (.int .i64 at_)).setCell ⟨c,0,none⟩ (.int .i64 4)) c 27 #[.int .i64 4] ∧
  Below a w ((((w.setCell ⟨a,0,none⟩ (.slice none 0 0)).setCell ⟨a,1,none⟩ (.slice none 0 0)).setCell ⟨b,0,none⟩ (.int .i64 at_)).setCell ⟨c,0,none⟩ (.int .i64 4)):=by
 have n:=(m.d_ 0 (.slice none 0 0)).d_ 1 (.slice none 0 0);have o:=(n.far (p:=⟨b,0,none⟩) (by simp;omega) (.int .i64 at_)).far (p:=⟨c,0,none⟩) (by simp;omega) (.int .i64 4);have d:=(i.far (p:=⟨a,0,none⟩) (by simp;omega) (.slice none 0 0)).far (p:=⟨a,1,none⟩) (by simp;omega) (.slice none 0 0);have e:=(d.d_ 0 (.int .i64 at_)).far (p:=⟨c,0,none⟩) (by simp;omega) (.int .i64 4);have f:=(j.far (p:=⟨a,0,none⟩) (by simp;omega) (.slice none 0 0)).far (p:=⟨a,1,none⟩) (by simp;omega) (.slice none 0 0);have h:=(f.far (p:=⟨b,0,none⟩) (by simp;omega) (.int .i64 at_)).d_ 0 (.int .i64 4);exact⟨by simpa using o,by simpa using e,by simpa using h,dx (dx (dx (dx (Below.refl _ _) (aaJ _)) (aaJ _)) (by omega)) (by omega)⟩
theorem wrong_is (at_:Int)(w:World):(Instr.typeAssert (.iface 109 (.agg #[.int .i64 at_])) 20 109 true).run Tryz.prog w=.ok (.tuple #[.agg #[.int .i64 at_],.bool true]) w:=by kernel_rfl
theorem NP (c b f:Nat)(x y z u:Value)(at_:Int)(a:List PanicEntry)(w:World)(d:aC w c 26 #[x,y])(i:aC w b 3 #[z])(j:aC w f 27 #[u])(h1:c < b)(h2:b < f) :
  CallsD Tryz.prog 92 #[.pointer (some ⟨c,0,none⟩),.pointer (some ⟨b,0,none⟩),.pointer (some ⟨f,0,none⟩)] (.panicking ({ v:=.iface 109 (.agg #[.int .i64 at_]),recovered:=false } :: a)) w fun e F m =>
   e=.returned (.tuple #[])∧F=.panicking ({ v:=.iface 109 (.agg #[.int .i64 at_]),recovered:=true } :: a)∧aC m c 26 #[.slice none 0 0,.slice none 0 0]∧aC m b 3 #[.int .i64 at_]∧aC m f 27 #[.int .i64 4]∧Below c w m:=by
 have D:=wrong_is at_;have J:=d.cell 0;have K:=d.cell 1;have G:=i.cell 0;have H:=j.cell 0;have t:=d.frozen 0;have A:=d.frozen 1;have o:=i.frozen 0;have r:=j.frozen 0;refine callsD_of_wpS Tryz.func92 rfl fun n cs E=>?_
 apply wpS_seq
 apply wpS_region
 simp [wpOpsS,go_sem,recoverD,E,Tryz.ntmps92,Exit.thenS]
 refine wpS_of_wp ?_;have I:=j.lt;have B:=d.lt;have C:=i.lt;go_wp2;go_region
 all_goals
  go_wp2;have h:=caught w c b f x y z u at_ d i j h1 h2
  refine⟨rfl,_,rfl,.tuple #[],by simp [results,Tryz.f92,go_sem],rfl,rfl,?_,?_,?_,?_⟩
  ·exact (h.1.alloc _).drew
  ·exact (h.2.1.alloc _).drew
  ·exact (h.2.2.1.alloc _).drew
  ·exact Below.drew (ah h.2.2.2 (aaK h.1.lt))
end Go.Proofs.YthepmkjggfijoaaGreatDoor
