/-
  A part of the proof.
-/
import Derived.Test.YtflnfhhgamldhaaGreatDoorS04
import Derived.Test.YtflnfhhgamldhaaGreatDoorS13
import Derived.Test.YtflnfhhgamldhaaGreatDoorS14
set_option linter.all false
set_option maxRecDepth 100000
set_option maxHeartbeats 4000000
namespace Go.Proofs.YtflnfhhgamldhaaGreatDoor
section
open Go.RowKit Mist
attribute [local go_sem] ah aM aV au ak
section
variable {g:Nat} {tv:Value} {l:List Tok} {en:Int} {iv:Value} (hF:PF l)
include hF
theorem Zz (m:Nat)(w:World)(k:Nat)(xs:List NV)(nv:Value)(r:kX)(h:PS g tv l en iv w (k+1) xs nv)(hk:k+1≤l.length)(hn:xs.length≤k)(hw:Wf (aF xs))(hr:iq l en m .ask k (aF xs)=some r) :
  Calls Tryz.prog 130 #[.pointer (some ⟨g,0,none⟩),.agg #[.int .u8 (tg l k).kind,.string (aH (tx l k)),.int .i64 (pl l en k)]] w (aZ g tv l en iv w xs nv r):=by
 have C:=fun (f:Nat) (_:f≤m) (j:Job) (hj:isFn j=true)=>oG (g:=g) (tv:=tv) (en:=en) (iv:=iv) hF f j hj
 have CL:=fun (f:Nat) (_:f≤m) (e:El)=>oz (g:=g) (tv:=tv) (en:=en) (iv:=iv) hF f e
 have H:=O h;clear h;have nN:=O ((At.refl H.o).alloc (.cells #[.int .u8 (tg l k).kind,.string (aH (tx l k)),.int .i64 (pl l en k)] 80));have vL:=O (bf.new w 80 #[.int .u8 (tg l k).kind,.string (aH (tx l k)),.int .i64 (pl l en k)]);have c:=O hw;clear hw;have hn0:(aF xs).length≤k:=by rw [dL];exact hn
 have d:=hF.len;unfold iq at hr
 have qV:=O hr;clear hr;go_in
 obtain⟨i0,hi0,hz0,hz1,hz2⟩:=info_parts kR;have Ar:=qV.o;unfold A_ at Ar;have ahx:=O Ar;clear Ar
 go_wp2_with fail;refine (MS _).mono ?_;rintro e w2⟨rfl,rfl⟩;have I:=heap_alloc_new (w.alloc (.cells #[.int .u8 (tg l k).kind,.string (aH (tx l k)),.int .i64 (pl l en k)] 80)) (.map (jD BH 0).toArray 8);rw [show (w.alloc (.cells #[.int .u8 (tg l k).kind,.string (aH (tx l k)),.int .i64 (pl l en k)] 80)).heap.size=w.heap.size+1 by simp] at I;have HM:=O I;clear I
 have eH:=O (vL.o.alloc (.map (jD BH 0).toArray 8));clear vL;have A:=O (nN.o.alloc (.map (jD BH 0).toArray 8));clear nN;go_wp2_with fail;refine (iQ g tv l en iv _ (k+1) _ _ A.o.ps (by omega) d).mono ?_;rintro e w3⟨rfl,v⟩;have uo:=O ((v.block _ (akX.1 HM.o).1).trans HM.o);have jr:=O (eH.o.below v eH.o.lt);clear eH;have F:=O (A.o.below v);clear A;clear v;have V:=Z0 _ _ _ uo.o (tx l (k+1));have tf1:=l6;obtain⟨Q,hQ⟩:∃ Q,Q=gZ (tx l (k+1)):=⟨_,rfl⟩;rw [← hQ] at V
 have WR:=ahx.o;rw [← hQ] at WR
 have hQ8:Q≤8:=by rw [hQ];unfold gZ;(repeat' split) <;> omega
 have hQt:Q ≠ 0→k+1 < l.length:=fun h=>cB (s:=tx l (k+1)) rfl (fun e9=>h (by rw [hQ,e9];rfl))
 clear hQ;rcases fT WR with ⟨E,PX⟩ | ⟨E,PX⟩
 all_goals clear WR
 ·skip;obtain rfl:kX.bad (k+1)=r:=ak6 PX;subst E;have W:(((0:Nat):Int) == 0)=true:=rfl;go_wp2_with fail;refine (qw g tv l en iv _ (k+1) _ _ F.o.ps (by omega) d).mono ?_;rintro e wq⟨rfl,hbq⟩
  (try unfold aW)
  go_wp2_with fail;exact⟨rfl,aZ.bad rfl ((H.o.low F.o.mv).trans (hbq.mono (ak1 F.o.ps.lt)))⟩
 ·skip;have ajv:=hQt E;have HRQ:=O PX;clear PX;have W:((Q:Int) == 0)=false:=by simp;omega
  go_wp2_with fail;refine (sI g tv l en iv _ (k+1) _ _ F.o.ps (by omega) d).mono ?_;rintro e w4⟨rfl,p4,m4⟩;clear V W;have y:=O (F.o.ps.aY m4 jr.o);clear jr;have a:=O (F.o.step p4 m4);clear F;clear p4 m4;rcases fT HRQ.o with ⟨Jk,S⟩ | ⟨Jk,S⟩
  ·skip;subst Jk;have D:=O S;clear S;obtain rfl:=dW D.o;have fA:=y.o.cell 0;have fH:=y.o.cell 1;have fI:=y.o.cell 2;have sl0:=y.o.lt;go_wp2_with fail;refine (gI g tv l en iv (aF xs).length 46 _ _ _ [] 7 _ [] _ ((k+1)+1) _ _ a.o.ps (dD.none_ _) a.o.len (by omega)).mono ?_;rintro e w5⟨rfl,Sn,p5,m5⟩;have Z:=O (a.o.add p5 m5 (by intro b t;simp [Value.ownBlock] at t));clear p5 m5;go_wp2_with fail;go_ret;exact aZ.ok rfl Z.o
  ·skip;rcases fT S with ⟨Jl,T⟩ | ⟨Jl,T⟩
   all_goals clear S
   ·skip;subst Jl;have D:=O T;clear T;rcases dY D.o with ⟨ks6,k6,ns6,i,R6⟩ | ⟨kb6,i,rfl⟩
    rotate_left
    ·have n:=O i;clear i;go_wp2_with fail;refine (CL m (ak0 _) .expr _ ((k+1)+1) _ _ _ a.o.ps (by omega) (by rw [a.o.len];omega) (by rw [a.o.ns];exact c.o) (by rw [a.o.ns];exact n.o)).mono ?_;rintro e w6⟨rfl,hb6⟩
     (try unfold aW)
     go_wp2_with fail;exact⟨rfl,aZ.bad rfl ((H.o.low a.o.mv).trans hb6)⟩
    have n:=O i;clear i;have zA:=O R6;clear R6 D;go_wp2_with fail;refine (CL m (ak0 _) .expr _ ((k+1)+1) _ _ _ a.o.ps (by omega) (by rw [a.o.len];omega) (by rw [a.o.ns];exact c.o) (by rw [a.o.ns];exact n.o)).mono ?_;rintro e w6⟨v6,ahI,nv6,rfl,J,G,hd6⟩;have P:=O (jm (base':=w.heap.size) J (fun b t=>Nat.le_trans a.o.mv.size (J.lt b t).1));clear J hd6;have U:=O (dG n.o (by omega) c.o (Ids.nil _) (by simp));have gl6:=U.o.lo;have gf6:=U.o.few;have ge6:=U.o.le;have gn6:=U.o.len;simp only [Job.reads] at gl6
    have nG:=O (G.blk a.o.ps y.o (by decide) (by decide));clear y;have abA:=O U.o.wf;have pR:=O (a.o.trans G);clear a;clear G;obtain rfl:=dW zA.o;have fA:=nG.o.cell 0;have fH:=nG.o.cell 1;have fI:=nG.o.cell 2;have sl0:=nG.o.lt;go_wp2_with fail;refine (gI g tv l en iv ns6.length 46 _ _ _ [] 8 _ ks6 _ k6 _ _ pR.o.ps (jm P.o (fun _ _=>ak2 _)) pR.o.len (by omega)).mono ?_;rintro e w7⟨rfl,nv7,p7,m7⟩;have Z:=O (pR.o.add p7 m7 (fun b t=>(P.o.lt b t).1));clear p7 m7;go_wp2_with fail;go_ret;exact aZ.ok rfl Z.o
   ·skip;have D:=O T;clear T;have u7:((Q:Int) == 7)=false:=by simp;omega
    have u8:((Q:Int) == 8)=false:=by simp;omega
    have B:=O (show w4.ownsRow w.heap.size 3 1 (.slice none 0 0) 0 (intCells []) from World.ownsRow_nil _ _ _ _);have HQN:=O (show ([]:List Int).length=0 from rfl);have X3:=O (ne_nil (ext:=[]));rcases dY D.o with ⟨L,k8,ns8,K,LV⟩ | ⟨kb8,K,rfl⟩
    rotate_left
    ·have I9:=O K;clear K;go_wp2_with fail;refine (C m (ak0 _) .expr rfl _ ((k+1)+1) _ _ _ a.o.ps (by omega) (by rw [a.o.len];omega) (by rw [a.o.ns];exact c.o) (by rw [a.o.ns];exact I9.o)).mono ?_;rintro e w8⟨rfl,Bh⟩
     (try unfold aW)
     go_wp2_with fail;exact⟨rfl,aZ.bad rfl ((H.o.low a.o.mv).trans Bh)⟩
    have I9:=O K;clear K;have FR:=O LV;clear LV D;go_wp2_with fail;refine (C m (ak0 _) .expr rfl _ ((k+1)+1) _ _ _ a.o.ps (by omega) (by rw [a.o.len];omega) (by rw [a.o.ns];exact c.o) (by rw [a.o.ns];exact I9.o)).mono ?_;rintro e w8⟨rfl,aeG,U7,N⟩;have M:=O (dG I9.o (by omega) c.o (Ids.nil _) (by simp));have gl8:=M.o.lo;have gf8:=M.o.few;have ge8:=M.o.le;have gn8:=M.o.len;simp only [Job.reads] at gl8
    have rT:=O (N.blk a.o.ps y.o (by decide) (by decide));clear y;have XZ:=O (rD X3.o N.fresh (fun b t=>(B.o.lt b t).2));clear X3;have xK:=O (a.o.ps.iV N.mv B.o (by decide) (by decide));clear B;have KN:=O M.o.wf;have wD:=O (a.o.trans N);clear a;clear N
    go_wp2_with (at_builtin
                 refine wpList_append_lies _ rfl (.tmp 19) (.tmp 22) 30 rfl w.heap.size 3 i0 _ 1 8 Tryz.underlying30 hi0 hz0 hz1 hz2 rfl (by decide) _ 0 (intCells []) rfl
                   (xK.o.alloc _) ⟨w8.heap.size,0,none⟩ 1 1 [.int .i64 (hd L)] rfl rfl (iD _ _ _) (by intro u hu;simp at hu;subst hu;rfl) (by omega) (by simp only [maxLen];omega) (by omega) (by have:=wD.o.mv.size;simp;omega) (w8.heap.size+1) (by simp) ?_
                 intro gg9 YK w9 LB x Y1 aeV;have Co:=fC rT.o xK.o x (by decide);have SL:=Co.cell 0;have SN:=Co.cell 1;have SQ:=Co.cell 2;have ac5:=Co.lt)
    have X0:=O (oV wD.o.ps XZ.o Y1 (0+1) YK);clear Y1;have lC:=O (fC rT.o xK.o x (by decide));have sK:=O ((wD.o.alloc (.cells #[.int .i64 (hd L)] 3)).grown H.o xK.o (by decide) x XZ.o);have R:=O (show w9.ownsRow w.heap.size 3 1 (.slice (some ⟨gg9,0,none⟩) (0+1) YK) (0+1) (intCells ([] ++ [hd L])) by rw [fU];exact LB);clear LB;have HQ9:=O (show ([] ++ [hd L]).length=0+1 by rw [ak5,HQN.o];rfl);clear x aeV;obtain rfl:=dW FR.o;have fA:=lC.o.cell 0;have fH:=lC.o.cell 1;have fI:=lC.o.cell 2;have sl0:=lC.o.lt;refine (gI g tv l en iv ns8.length 46 _ _ _ [] (Q:Int) _ ([] ++ [hd L]) _ k8 _ _ sK.o.ps (D9 HQ9.o R.o) sK.o.len (by omega)).mono ?_;rintro e Og⟨rfl,acB,Y,X⟩;have Z:=O (sK.o.add Y X (fun b t=>(R.o.lt b t).1));clear Y X;go_wp2_with fail;go_ret;exact aZ.ok rfl Z.o
end
end
section
open Go.RowKit Mist
section
variable {g:Nat} {tv:Value} {l:List Tok} {en:Int} {iv:Value} (hF:PF l)
include hF
theorem LX (i:It)(m:Nat)(w:World)(k:Nat)(xs:List NV)(nv:Value)(r:kX)(h:PS g tv l en iv w (k+1) xs nv)(a:k+1≤l.length)(b:xs.length≤k)(d:Wf (aF xs))(c:iq l en m i k (aF xs)=some r) :
  Calls Tryz.prog (Cc i) #[.pointer (some ⟨g,0,none⟩),.agg #[.int .u8 (tg l k).kind,.string (aH (tx l k)),.int .i64 (pl l en k)]] w (aZ g tv l en iv w xs nv r):=by
 cases i with
 | choose=>exact LY hF m w k xs nv r h a b d c
 | record=>exact LZ hF m w k xs nv r h a b d c
 | zY=>exact UL hF m w k xs nv r h a b d c
 | Az=>exact UM hF m w k xs nv r h a b d c
 | observe=>exact Ju hF m w k xs nv r h a b d c
 | mD=>exact Jv hF m w k xs nv r h a b d c
 | ask=>exact Zz hF m w k xs nv r h a b d c
end
theorem NU (w:World):(zeroValue 130).run Tryz.prog w=.ok .nilFunc w:=by kernel_rfl
theorem UZ (w:World)(m c:Nat)(a:w.heap[m]? = some (.map (jD yD 0).toArray c))(x:Bs):(Instr.lookup 126 (.map (some m)) (.string (aH x)) true).run Tryz.prog w=.ok (.tuple #[((F6 x).map fun i=>fv (Cc i)).getD .nilFunc,.bool (F6 x).isSome]) w:=by
 have h:=Ef 126 130 .nilFunc Tryz.underlying126 w (NU w) yD m c a x true;rw [h,Zx];simp
structure PR (g:Nat) (tv:Value) (l:List Tok) (en:Int) (iv:Value) (w:World) (k:Nat) (xs:List NV) (nv:Value) (its:List Int) (q:Nat):Prop where
 ps:PS g tv l en iv w k xs nv
 len:its.length=q
 row:w.ownsRow (g+1) 3 1 iv q (intCells its)
 ne:∀ x ∈ xs,x.2.ownBlock=none∨x.2.ownBlock ≠ iv.ownBlock
 far:∀ x ∈ xs,∀ b,x.2.ownBlock=some b→g < b
section
variable {g:Nat} {tv:Value} {l:List Tok} {en:Int} {iv:Value} {w w1 w2:World} {k k1:Nat} {xs ext:List NV} {nv gT:Value} {its:List Int} {q:Nat}
theorem PR.below (h:PR g tv l en iv w k xs nv its q)(a:Below w.heap.size w w1):PR g tv l en iv w1 k xs nv its q :=
 ⟨h.ps.below a,h.len,own_below h.row a,h.ne,h.far⟩
theorem PR.alloc (h:PR g tv l en iv w k xs nv its q)(o:Obj):PR g tv l en iv (w.alloc o) k xs nv its q:=h.below ((Below.refl _ _).alloc (ak0 _) o)
theorem PR.drew (h:PR g tv l en iv w k xs nv its q):PR g tv l en iv w.drew k xs nv its q:=h.below (Below.drew (Below.refl _ _))
theorem PR.step (h:PR g tv l en iv w k xs nv its q)(p:PS g tv l en iv w1 k1 xs nv)(m:Mv g nv.ownBlock w nv.ownBlock w1):PR g tv l en iv w1 k1 xs nv its q :=
 ⟨p,h.len,h.ps.iV m h.row (by decide) (by decide),h.ne,h.far⟩
theorem PR.at_ {e:List Nd}(h:PR g tv l en iv w k xs nv its q)(a:At g tv l en iv w xs nv k1 e w1 ext gT):PR g tv l en iv w1 k1 (xs ++ ext) gT its q :=
 ⟨a.ps,h.len,h.ps.iV a.mv h.row (by decide) (by decide),rD h.ne a.fresh (fun b d=>(h.row.lt b d).2),fun x c b d=>by
  rcases List.mem_append.1 c with c | c
  ·exact h.far x c b d
  ·have:=a.fresh x c b d;have:=h.ps.lt;omega⟩
theorem PR.grown {o:Obj}{a:Int}{f cap:Nat}(h:PR g tv l en iv w k xs nv its q)(t:(w.alloc o).grownBy w2 iv.ownBlock)(j:iv.ownBlock=some f∨f=w.heap.size+1)
  (d:w2.ownsRow (g+1) 3 1 (.slice (some ⟨f,0,none⟩) (q+1) cap) (q+1) (intCells its ++ [.int .i64 a])) :
  PR g tv l en (.slice (some ⟨f,0,none⟩) (q+1) cap) (w2.setCell ⟨g,4,none⟩ (.slice (some ⟨f,0,none⟩) (q+1) cap)) k xs nv (its ++ [a]) (q+1):=by
 have p:=(h.ps.alloc o).grown t (fun b i=>by
  have r:=h.row.lt b i
  refine⟨by omega,fun e=>?_,fun x n e=>?_⟩
  ·rcases eY h.row h.ps.own (by decide) with c | c
   ·rw [i] at c;cases c
   ·exact c (i.trans e.symm)
  ·rcases h.ne x n with c | c
   ·rw [e] at c;cases c
   ·exact c (e.trans i.symm))
 have m:Mv g nv.ownBlock w2 nv.ownBlock (w2.setCell ⟨g,4,none⟩ (.slice (some ⟨f,0,none⟩) (q+1) cap)):=Mv.g_ p.blk 4 _
 refine⟨⟨(by have:=p.blk.g_ 4 (.slice (some ⟨f,0,none⟩) (q+1) cap);simpa using this),ownsRow_setCell_other p.own (bD p.own p.blk (by decide)) _,fun x n=>p.kZ m (p.kids x n),p.toks.below (p.low m),qh p.env (p.low m)⟩,by rw [ak5,h.len];rfl,?_,oV (xs:=[]) h.ps h.ne j _ _,h.far⟩
 rw [fU];exact ownsRow_setCell_other d (bD d p.blk (by decide)) _
theorem PR.low {o:Obj}{u:Value}{i:Nat}(h:PR g tv l en iv w k xs nv its q)(c:(w.alloc o).grownBy w2 iv.ownBlock):Below g w (w2.setCell ⟨g,i,none⟩ u) :=
 eF (((Below.refl _ _).alloc (ak1 h.ps.lt) o).grown c (by have:=h.ps.lt;simp;omega) (fun b a=>by have:=(h.row.lt b a).1;omega)) (ak0 _)
theorem PR.more {r h i:World}{C:List Nd}{o:Obj}{a:Int}{d cap b c:Nat}{n:Array MapEntry}(h4:PR g tv l en iv r k xs nv its q)(t:At g tv l en iv r.drew xs nv k1 C h ext gT)(v:(h.alloc o).grownBy i iv.ownBlock)(u:iv.ownBlock=some d∨d=h.heap.size+1)
  (m:i.ownsRow (g+1) 3 1 (.slice (some ⟨d,0,none⟩) (q+1) cap) (q+1) (intCells its ++ [.int .i64 a])) (E:r.heap[b]? = some (.map n c)) :
  PR g tv l en (.slice (some ⟨d,0,none⟩) (q+1) cap) (i.setCell ⟨g,4,none⟩ (.slice (some ⟨d,0,none⟩) (q+1) cap)) k1 (xs ++ ext) gT (its ++ [a]) (q+1)∧Below g r (i.setCell ⟨g,4,none⟩ (.slice (some ⟨d,0,none⟩) (q+1) cap))∧(i.setCell ⟨g,4,none⟩ (.slice (some ⟨d,0,none⟩) (q+1) cap)).heap[b]? = some (.map n c):=by
 have h5:=h4.drew.at_ t;have f:h.heap[b]? = some (.map n c):=t.map h4.drew.ps E;have j:(h.alloc o).heap[b]? = some (.map n c):=nW f _;have x:b < (h.alloc o).heap.size:=(akX.1 j).1
 refine⟨h5.grown v u m,(((Below.drew (Below.refl _ _)).trans (h4.drew.ps.low t.mv)).trans (h5.low v)),?_⟩
 have y:some b ≠ iv.ownBlock:=by
  intro e;rcases h5.row.2 with ⟨hv,_⟩ | ⟨F,cap,D,hv,_,B,_⟩
  ·rw [hv] at e;simp [Value.ownBlock] at e
  ·rw [hv] at e;simp [Value.ownBlock] at e
   rw [← e,f] at B;cases B
 have A:b ≠ g:=(h5.ps.qF f).1;exact (Below.heap_setCell i ⟨g,4,none⟩ _ b (by simpa using A)).trans ((v.block b x y).trans j)
end
end
section
open Go.RowKit Mist
attribute [local go_sem] ah aM aV au ak
def Dp (g:Nat)(tv:Value)(l:List Tok)(en:Int)(w:World)(r:kX)(e:Ending)(w':World):Prop :=
 match r with
 | .ok its k ns=>(∃ v,e=.returned v)∧(∃ xs nv iv q,PR g tv l en iv w' k xs nv its q∧aF xs=ns)∧Below g w w'
 | .bad k=>e=aW l en k∧Below g w w'
theorem Dp.bad {g:Nat}{tv:Value}{l:List Tok}{en:Int}{w w1:World}{k:Nat}{e:Ending}(b:e=aW l en k)(a:Below g w w1):Dp g tv l en w (.bad k) e w1:=⟨b,a⟩
section
variable {g:Nat} {tv:Value} {l:List Tok} {en:Int} (hF:PF l)
include hF
theorem MI (n f:Nat)(w:World)(k q:Nat)(xs:List NV)(nv iv:Value)(its:List Int)(r:kX)(h:PR g tv l en iv w k xs nv its q)(hk:k≤l.length)(hn:xs.length≤k)(hq:q≤k)(hw:Wf (aF xs))(hr:prog l en n f k (aF xs) its=some r) :
  Calls Tryz.prog 45 #[.pointer (some ⟨g,0,none⟩)] w (Dp g tv l en w r):=by
 obtain⟨A,c,rfl,hlc,_⟩:=h.ps.toks;obtain⟨i0,hi0,hz0,hz1,hz2⟩:=info_parts kR;have H:=O h;clear h;have HW0:=O hw;clear hw;have HP0:=O hr;clear hr;have B:=hF.len;have hgl:=H.o.ps.lt;go_in
 go_wp2_with fail;refine (UN _).mono ?_;rintro e w1⟨rfl,rfl⟩;have XV:=O (heap_alloc_new w (.map (jD yD 0).toArray 7));have H1:=O (H.o.alloc (.map (jD yD 0).toArray 7));have HB0:=O (aG (Below.refl g w) (ak1 hgl) (o:=.map (jD yD 0).toArray 7));go_wp2_with fail;go_loopw [3] (fun bv wr=>∃ (E b q':Nat) (j:List NV) (gB R9:Value) (I:List Int),b≤l.length∧j.length≤b∧q'≤b∧Hid (PR g (.slice A l.length c) l en R9 wr b j gB I q')∧Hid (wr.heap[w.heap.size]? = some (.map (jD yD 0).toArray 7))∧Hid (Wf (aF j))∧Hid (prog l en n E b (aF j) I=some r)∧Hid (Below g w wr)) (fun _ wr=>vU g l.length wr)
 case atStart=>exact⟨f,k,q,xs,nv,iv,its,hk,hn,hq,H1,XV,HW0,HP0,HB0⟩
 case round =>
  clear XV H1 HB0 HP0 HW0 hk hn hq;obtain⟨E,b,q',j,gB,R9,I,hk',hn',hq',N,HM,HW,HP,HB⟩:=hrel
  obtain⟨E,rfl⟩:∃ f0,E=f0+1:=⟨E - 1,by
   rcases Nat.eq_zero_or_pos E with h | h
   ·subst h;have:=HP.o;rw [prog] at this;cases this
   ·omega⟩
  have HMS:=O (N.o.ps.vU (n:=l.length));have c0:=N.o.ps.blk.cell 0;have c2:=N.o.ps.blk.cell 2;have hgr:=N.o.ps.lt;by_cases hkl:b < l.length
  case neg =>
   have y:=O (show r=.ok I b (aF j) by have:=HP.o;rw [prog,if_neg hkl] at this;exact (ak6 this).symm);have d1:decide ((b:Int) < (l.length:Int))=false:=ala (by omega);have d2:decide (b < l.length)=false:=ala (by omega);go_wp2_with fail;go_quiet (fail)
   go_wp2_with fail;refine bodyPost_ret (v:=.tuple #[]) (by simp [results,Tryz.f45,go_sem]) rfl ?_;rw [y.o];exact⟨⟨_,rfl⟩,⟨_,_,_,_,N.o.below (gJ (Below.refl _ _) _),rfl⟩,gJ HB.o _⟩
  case pos =>
   have WL:=O (show thn (item l en n b (aF j)) (fun a k1 Q=>need l [59] k1 <| prog l en n E (k1+1) Q (I ++ [hd a]))=some r by have:=HP.o;rw [prog,if_pos hkl] at this;exact this);clear HP;have d1:decide ((b:Int) < (l.length:Int))=true:=ak' (by omega);have d2:decide (b < l.length)=true:=ak' (by omega);go_wp2_with fail;go_quiet (fail)
   clear d1 d2 c0 c2;go_wp2_with fail;refine (iQ g _ l en R9 _ b _ _ (N.o.below (gJ (Below.refl _ _) _)).ps (by omega) B).mono ?_;rintro e w2⟨rfl,P⟩;have U:=O ((N.o.below (gJ (Below.refl _ _) _)).below P);have W:=HM.o;have hms:w.heap.size < wr.heap.size:=(akX.1 W).1;have uo:=O ((P.block w.heap.size hms).trans W);clear W;have HB2:=O ((gJ HB.o _).trans (P.mono (ak1 N.o.ps.lt)));clear P N HM HB;have zG:=O (bf.new w2 80 #[.int .u8 (tg l b).kind,.string (aH (tx l b)),.int .i64 (pl l en b)]);have m:=O (U.o.alloc (.cells #[.int .u8 (tg l b).kind,.string (aH (tx l b)),.int .i64 (pl l en b)] 80));have Gq:=O (nW uo.o (.cells #[.int .u8 (tg l b).kind,.string (aH (tx l b)),.int .i64 (pl l en b)] 80));have J:=O (aG HB2.o (ak1 U.o.ps.lt) (o:=(.cells #[.int .u8 (tg l b).kind,.string (aH (tx l b)),.int .i64 (pl l en b)] 80)));have D:=UZ _ _ _ Gq.o (tx l b);have X:=zG.o.cell 0;have Y:=zG.o.cell 1;have Z:=zG.o.cell 2;have slt:=zG.o.lt;clear U uo HB2;rcases hi:F6 (tx l b) with _ | i
   ·rw [hi] at D
    simp only [Option.map_none,Option.getD_none,Option.isSome_none] at D
    have y:=O (show kX.bad b=r by
     have h9:=WL.o;have e9:item l en n b (aF j)=some (.bad b):=by unfold item;split <;> simp [hi]
     rw [e9] at h9;exact ak6 h9)
    clear hi;go_wp2_with fail;refine (qw g _ l en R9 _ b _ _ m.o.ps (by omega) B).mono ?_;rintro e wq⟨rfl,V⟩;go_wp2_with fail;rw [← y.o];exact⟨rfl,Dp.bad rfl (J.o.trans (V.mono (ak1 m.o.ps.lt)))⟩
   have HI:=O hi;rw [hi] at D
   simp only [Option.map_some,Option.getD_some,Option.isSome_some] at D
   unfold fv at D
   clear hi;by_cases C:(tg l b).kind=3
   case neg =>
    have n3:(((tg l b).kind:Int) != 3)=true:=by simp [bne];omega
    have y:=O (show kX.bad b=r by
     have h9:=WL.o;have e9:item l en n b (aF j)=some (.bad b):=by unfold item;rw [if_neg C]
     rw [e9] at h9;exact ak6 h9)
    clear C;go_wp2_with fail;refine (qw g _ l en R9 _ b _ _ m.o.ps (by omega) B).mono ?_;rintro e wq⟨rfl,V⟩;go_wp2_with fail;rw [← y.o];exact⟨rfl,Dp.bad rfl (J.o.trans (V.mono (ak1 m.o.ps.lt)))⟩
   case pos =>
    have n3:(((tg l b).kind:Int) != 3)=false:=by rw [C];rfl
    have R:=O (show thn (iq l en n i b (aF j)) (fun a k1 Q=>need l [59] k1 <| prog l en n E (k1+1) Q (I ++ [hd a]))=some r by
     have h9:=WL.o;have e9:item l en n b (aF j)=iq l en n i b (aF j):=by unfold item;rw [if_pos C,HI.o]
     rw [e9] at h9;exact h9)
    have BX:=O C;clear C WL;go_wp2_with fail;refine (sI g _ l en R9 _ b _ _ m.o.ps (by omega) B).mono ?_;rintro e w4⟨rfl,p4,m4⟩;clear D n3 X Y Z slt;have t:=O (m.o.step p4 m4);have HM4:=O ((m4.block _ (akX.1 Gq.o).1 (m.o.ps.qF Gq.o).1 (m.o.ps.qF Gq.o).2).trans Gq.o);have qM:=O (J.o.trans (m.o.ps.low m4));have OD:=O (m.o.ps.aY m4 zG.o);clear p4 m4 m Gq J zG;have c4:=t.o.ps.blk.cell 4;have X:=OD.o.cell 0;have Y:=OD.o.cell 1;have Z:=OD.o.cell 2;have slt:=OD.o.lt;have hl4:=t.o.ps.lt;rcases hx:iq l en n i b (aF j) with _ | x
    ·have:=R.o;rw [hx] at this;cases this
    have HX:=O hx;clear hx;have T:=O (show thn (some x) (fun a k1 Q=>need l [59] k1 <| prog l en n E (k1+1) Q (I ++ [hd a]))=some r by have:=R.o;rw [HX.o] at this;exact this);clear R
    cases x with
    | bad kb =>
     have y:=O (show kX.bad kb=r from ak6 T.o);cases i
     all_goals
      dsimp only [Cc]
      go_wp2_with fail;refine wp_region_held_drew (S:=fun w'=>w'.cell? ⟨g,4,none⟩=some R9∧w'.cell? ⟨w2.heap.size,0,none⟩=some (.int .u8 (tg l b).kind)∧w'.cell? ⟨w2.heap.size,1,none⟩=some (.string (aH (tx l b)))∧w'.cell? ⟨w2.heap.size,2,none⟩=some (.int .i64 (pl l en b))) (by kernel_rfl) ⟨c4,X,Y,Z⟩ (fun d=>?_);refine dB 0 rfl d ?_;simp only [Act.put,akR,akS,akT];refine dB 1 rfl d ?_;simp only [Act.put,akR,akS,akT];refine dB 2 rfl d ?_;simp only [Act.put,akR,akS,akT];refine dB 3 rfl d ?_;simp only [Act.put,akR,akS,akT];refine dB 4 rfl d ?_;simp only [Act.put,akR,akS,akT];refine dB 5 rfl d ?_;simp only [Act.put,akR,akS,akT];refine dB 6 rfl d ?_;simp only [Act.put,akR,akS,akT];refine dB 7 rfl d ?_;simp only [Act.put,akR,akS,akT];refine dB 8 rfl d ?_;simp only [Act.put,akR,akS,akT];refine wpAnyH_ready (rs:=[9]) (by kernel_rfl) (by simp) ?_;refine gN (.s (.s (.s (.s (.s (.s (.s (.s (.s .z))))))))) (fun K hK=>?_);go_simp;refine (LX hF _ n _ b j gB _ t.o.ps.drew (by omega) hn' HW.o HX.o).mono ?_;rintro e w5⟨rfl,hb5⟩;unfold aW;go_wp2_with fail;rw [← y.o];exact⟨rfl,Dp.bad rfl (qM.o.trans ((Below.drew (Below.refl _ _)).trans hb5))⟩
    | ok ks k1 Q =>
     have GO:=O (Ay (by omega) HW.o (show item l en n b (aF j)=some (.ok ks k1 Q) by unfold item;rw [if_pos BX.o,HI.o];exact HX.o));have go1:=GO.o.lo;have go2:=GO.o.le;have go3:=GO.o.few;rw [dL] at go3
     have HG4:=O (show need l [59] k1 (prog l en n E (k1+1) Q (I ++ [hd ks]))=some r from T.o);clear T;cases i
     all_goals
      dsimp only [Cc]
      go_wp2_with fail;have f4:=t.o.ps.blk.frozen 4
      go_region_law ((first
        | (guard_target =~ ((if Region.wanted _ _=true then _ else _:Prop));refine step_append_lies _ (by rfl) _ _ _ (by rfl) (g+1) 3 i0 _ 1 8 Tryz.underlying30 hi0 hz0 hz1 hz2 rfl (by omega) _ q' (intCells I) (by rfl) (G.o.alloc _).row ⟨w5.heap.size,0,none⟩ 1 1 [.int .i64 (hd ks)] (by rfl) (by rfl) (iD _ _ _) (by intro u hu;simp at hu;subst hu;rfl) (by omega) (by simp only [maxLen];omega) (by omega) (by simp;omega) (w5.heap.size+1) (by simp) ?_;intro gg cap w6 F Ca yA Jo;have z4:=((G.o.ps.blk.alloc (.cells #[.int .i64 (hd ks)] 3)).grown Ca (fun e=>bD G.o.row G.o.ps.blk (by decide) e.symm)).cell 4;have z6:=(G.o.ps.blk.alloc (.cells #[.int .i64 (hd ks)] 3)).grown Ca (fun e=>bD G.o.row G.o.ps.blk (by decide) e.symm);have z5:=z6.frozen 4;clear z6;have z0:=fC HD0.o G.o.row Ca (by decide);have y0:=z0.cell 0;have y1:=z0.cell 1;have y2:=z0.cell 2;clear z0)
        | (go_simp;(first | go_at_call 124 | go_at_call 125 | go_at_call 126 | go_at_call 127 | go_at_call 128 | go_at_call 129 | go_at_call 130);refine (LX hF _ n _ b j gB _ t.o.ps.drew (by omega) hn' HW.o HX.o).mono ?_;rintro e w5⟨rfl,agd,Sn,PE⟩;have mF:=O PE;have G:=O (t.o.drew.at_ PE);have c4:=G.o.ps.blk.cell 4;have f4:=G.o.ps.blk.frozen 4;have d0:=PE.blk t.o.ps.drew OD.o.drew (by decide) (by decide);have dc0:=d0.cell 0;have dc1:=d0.cell 1;have dc2:=d0.cell 2;have HD0:=O d0;clear d0;have Zv:=G.o.ps.lt;clear PE)))
      all_goals
       have M:=O (t.o.more (a:=hd ks) mF.o Ca yA F HM4.o);have zA:=O M.o.1;have dO:=O (qM.o.trans M.o.2.1);have L:=O M.o.2.2;clear M F Ca yA Jo;have hl5:=mF.o.len;have FY:=O mF.o.ns;clear mF;rcases dP HG4.o with ⟨Al,Zj⟩ | ⟨Al,rfl⟩
       rotate_left
       ·have N_:=O Al;clear Al;go_wp2_with fail;refine (f_ g _ l en _ hF [59] (.inr (by decide +kernel)) _ k1 _ _ zA.o.ps go2 N_.o).mono ?_;rintro e w7⟨rfl,pF⟩;unfold aW;go_wp2_with fail;exact⟨rfl,Dp.bad rfl (dO.o.trans (pF.mono (ak1 zA.o.ps.lt)))⟩
       have ae0:=cB Al (by simp);have N_:=O Al;clear Al;have OJ:=O Zj;clear Zj;go_wp2_with fail;refine (eP g _ l en _ hF [59] (.inr (by decide +kernel)) _ k1 _ _ zA.o.ps go2 N_.o).mono ?_;rintro e w7⟨rfl,p7,m7⟩;have HRZ:=O (zA.o.step p7 m7);have HMZ:=O ((m7.block _ (akX.1 L.o).1 (zA.o.ps.qF L.o).1 (zA.o.ps.qF L.o).2).trans L.o);have HBZ:=O (dO.o.trans (zA.o.ps.low m7));clear p7 m7;go_wp2_with fail
       refine⟨⟨E,k1+1,q'+1,j ++ agd,Sn,_,I ++ [hd ks],by omega,by rw [hl5];omega,by omega,HRZ,HMZ,O (by rw [FY.o];exact GO.o.wf),O (by rw [FY.o];exact OJ.o),HBZ⟩,?_⟩
       rw [HMS.o,HRZ.o.ps.vU];omega
end
end
section
open Go.RowKit Mist
theorem Pg (a b c:Value)(w:World) :
  CallsD Tryz.prog 44 #[a,b,c] .returning w fun e h i=>e=.returned (.tuple #[])∧h=.returning∧i=w:=by
 refine callsD_of_wpS Tryz.func44 rfl fun d cs f=>?_
 apply wpS_seq
 apply wpS_region
 simp [wpOpsS,go_sem,recoverD,f,Tryz.ntmps44,Exit.thenS]
 refine wpS_of_wp ?_;go_wp2;cases d
 simp_all [bodyPostS,results,Tryz.f44]
theorem caught (w:World)(a b c:Nat)(x y z u:Value)(at_:Int)(m:bf w a 32 #[x,y])(i:bf w b 3 #[z])(j:bf w c 23 #[u])(h1:a < b)(h2:b < c) :
  bf ((((w.setCell ⟨a,0,none⟩ (.slice none 0 0)).setCell ⟨a,1,none⟩ (.slice none 0 0)).setCell ⟨b,0,none⟩ (.int .i64 at_)).setCell ⟨c,0,none⟩ (.int .i64 4)) a 32 #[.slice none 0 0,.slice none 0 0] ∧
  bf ((((w.setCell ⟨a,0,none⟩ (.slice none 0 0)).setCell ⟨a,1,none⟩ (.slice none 0 0)).setCell ⟨b,0,none⟩ (.int .i64 at_)).setCell ⟨c,0,none⟩ (.int .i64 4)) b 3 #[.int .i64 at_] ∧
  bf ((((w.setCell ⟨a,0,none⟩ (.slice none 0 0)).setCell ⟨a,1,none⟩ (.slice none 0 0)).setCell ⟨b,0,none⟩ (.int .i64 at_)).setCell ⟨c,0,none⟩ (.int .i64 4)) c 23 #[.int .i64 4] ∧
  Below a w ((((w.setCell ⟨a,0,none⟩ (.slice none 0 0)).setCell ⟨a,1,none⟩ (.slice none 0 0)).setCell ⟨b,0,none⟩ (.int .i64 at_)).setCell ⟨c,0,none⟩ (.int .i64 4)):=by
 have n:=(m.g_ 0 (.slice none 0 0)).g_ 1 (.slice none 0 0);have o:=(n.far (p:=⟨b,0,none⟩) (by simp;omega) (.int .i64 at_)).far (p:=⟨c,0,none⟩) (by simp;omega) (.int .i64 4);have d:=(i.far (p:=⟨a,0,none⟩) (by simp;omega) (.slice none 0 0)).far (p:=⟨a,1,none⟩) (by simp;omega) (.slice none 0 0);have e:=(d.g_ 0 (.int .i64 at_)).far (p:=⟨c,0,none⟩) (by simp;omega) (.int .i64 4);have f:=(j.far (p:=⟨a,0,none⟩) (by simp;omega) (.slice none 0 0)).far (p:=⟨a,1,none⟩) (by simp;omega) (.slice none 0 0);have h:=(f.far (p:=⟨b,0,none⟩) (by simp;omega) (.int .i64 at_)).g_ 0 (.int .i64 4);exact⟨by simpa using o,by simpa using e,by simpa using h,eF (eF (eF (eF (Below.refl _ _) (ak0 _)) (ak0 _)) (by omega)) (by omega)⟩
theorem abt (at_:Int)(w:World):(Instr.typeAssert (.iface 94 (.agg #[.int .i64 at_])) 20 94 true).run Tryz.prog w=.ok (.tuple #[.agg #[.int .i64 at_],.bool true]) w:=by kernel_rfl
theorem K6 (c b f:Nat)(x y z u:Value)(at_:Int)(a:List PanicEntry)(w:World)(d:bf w c 32 #[x,y])(i:bf w b 3 #[z])(j:bf w f 23 #[u])(h1:c < b)(h2:b < f) :
  CallsD Tryz.prog 44 #[.pointer (some ⟨c,0,none⟩),.pointer (some ⟨b,0,none⟩),.pointer (some ⟨f,0,none⟩)] (.panicking ({ v:=.iface 94 (.agg #[.int .i64 at_]),recovered:=false } :: a)) w fun e E m =>
   e=.returned (.tuple #[])∧E=.panicking ({ v:=.iface 94 (.agg #[.int .i64 at_]),recovered:=true } :: a)∧bf m c 32 #[.slice none 0 0,.slice none 0 0]∧bf m b 3 #[.int .i64 at_]∧bf m f 23 #[.int .i64 4]∧Below c w m:=by
 have F:=abt at_;have J:=d.cell 0;have K:=d.cell 1;have G:=i.cell 0;have H:=j.cell 0;have t:=d.frozen 0;have A:=d.frozen 1;have o:=i.frozen 0;have r:=j.frozen 0;refine callsD_of_wpS Tryz.func44 rfl fun n cs D=>?_
 apply wpS_seq
 apply wpS_region
 simp [wpOpsS,go_sem,recoverD,D,Tryz.ntmps44,Exit.thenS]
 refine wpS_of_wp ?_;have I:=j.lt;have B:=d.lt;have C:=i.lt;go_wp2;go_region
 all_goals
  go_wp2;have h:=caught w c b f x y z u at_ d i j h1 h2
  refine⟨rfl,_,rfl,.tuple #[],by simp [results,Tryz.f44,go_sem],rfl,rfl,?_,?_,?_,?_⟩
  ·exact (h.1.alloc _).drew
  ·exact (h.2.1.alloc _).drew
  ·exact (h.2.2.1.alloc _).drew
  ·exact Below.drew (aG h.2.2.2 (ak1 h.1.lt))
end
section
open Go.RowKit Mist
attribute [local go_sem] ah aM aV au ak
theorem j6 {w:World}{base e s n b i:Nat}{v u:Value}{a:List Value}(h:w.ownsRow base e s v n a)(d:b < base):(w.setCell ⟨b,i,none⟩ u).ownsRow base e s v n a :=
 ownsRow_setCell_other h (fun c=>by have:=(h.lt b c).1;omega) u
theorem Qr {w:World}{base base' e s n:Nat}{v:Value}{a:List Value}(h:w.ownsRow base e s v n a)(c:base'≤base):w.ownsRow base' e s v n a:=jm h (fun k b=>by have:=(h.lt k b).1;omega)
structure rH (g:Nat) (w:World) (v:Value) (xs:List NV) (its:List Int):Prop where
 ex:∃ nv iv q,v=.agg #[nv,iv]∧w.ownsRow g 50 5 nv xs.length (jK xs)∧its.length=q∧w.ownsRow (g+1) 3 1 iv q (intCells its)
 kids:∀ x ∈ xs,w.ownsRow (g+1) 3 1 x.2 x.1.kids.length (intCells x.1.kids)
def Tx (l:List Tok)(en:Int)(w:World)(r:kX)(e:Ending)(w':World):Prop :=
 match r with
 | .ok its _ ns=>∃ v xs,e=.returned (.tuple #[v,.int .i64 0,.int .i64 0])∧aF xs=ns∧rH w.heap.size w' v xs its∧Below w.heap.size w w'
 | .bad k=>e=.returned (.tuple #[.agg #[.slice none 0 0,.slice none 0 0],.int .i64 (pl l en k),.int .i64 4])∧Below w.heap.size w w'
theorem SY {w a:World}{tv:Value}{l:List Tok}{g:Nat}(h:mH w tv l)(b:Below w.heap.size w a)(e:w.heap.size≤g):A9 a g tv l:=by
 obtain⟨A,c,rfl,d,f⟩:=h;exact⟨A,c,rfl,d,(f.below b).more e⟩
section
variable {tv:Value} {l:List Tok} {en:Int} (hF:PF l)
include hF
theorem afj {w w1:World}(h:mH w tv l)(d:Env w)(b:Below w.heap.size w w1):PR w1.heap.size tv l en (.slice none 0 0) (w1.alloc (.cells #[tv,.int .i64 en,.int .i64 0,.slice none 0 0,.slice none 0 0] 92)) 0 [] (.slice none 0 0) [] 0:=by
 have h2:Below w.heap.size w (w1.alloc (.cells #[tv,.int .i64 en,.int .i64 0,.slice none 0 0,.slice none 0 0] 92)):=aG b b.size;obtain⟨B,f,d⟩:=d
 refine⟨⟨bf.new w1 _ _,World.ownsRow_nil _ _ _ _,(fun x a=>nomatch a),SY h h2 b.size,?_⟩,rfl,World.ownsRow_nil _ _ _ _,(fun x a=>nomatch a),(fun x a=>nomatch a)⟩
 intro e c;exact d e ((h2.mono f).trans (c.mono (Nat.le_trans f b.size)))
theorem Ib (n f:Nat)(w:World)(r:kX)(hT:mH w tv l)(Y:Env w)(hr:prog l en n f 0 [] []=some r) :
  Calls Tryz.prog 16 #[tv,.int .i64 en] w (Tx l en w r):=by
 have hmf:∀ (X:Fn) (first cap:Array Value) (w:World),(Instr.makeFunc X first cap).run Tryz.prog w=.ok (.func X first cap) w:=fun _ _ _ _=>rfl
 obtain⟨A,c,rfl,F,H⟩:=hT;have HT:=O (show mH w (.slice A l.length c) l from ⟨A,c,rfl,F,H⟩);clear H F;have HE:=O Y;clear Y;have HR:=O hr;clear hr;go_enter_defers Tryz.func16,Tryz.ntmps16
 have I:(w.alloc (.cells #[.slice none 0 0,.slice none 0 0] 32)).heap.size=w.heap.size+1:=by simp
 have J:((w.alloc (.cells #[.slice none 0 0,.slice none 0 0] 32)).alloc (.cells #[.int .i64 0] 3)).heap.size=w.heap.size+1+1:=by simp
 have K:(((w.alloc (.cells #[.slice none 0 0,.slice none 0 0] 32)).alloc (.cells #[.int .i64 0] 3)).alloc (.cells #[.int .i64 0] 23)).heap.size=w.heap.size+1+1+1:=by simp
 have a:=afj hF (en:=en) HT.o HE.o (w1:=(((w.alloc (.cells #[.slice none 0 0,.slice none 0 0] 32)).alloc (.cells #[.int .i64 0] 3)).alloc (.cells #[.int .i64 0] 23))) (aG (aG (aG (Below.refl _ _) (ak0 _)) (by simp)) (by simp;omega));rw [K] at a
 have E:=(((bf.new w 32 #[.slice none 0 0,.slice none 0 0]).alloc (.cells #[.int .i64 0] 3)).alloc (.cells #[.int .i64 0] 23)).alloc (.cells #[.slice A l.length c,.int .i64 en,.int .i64 0,.slice none 0 0,.slice none 0 0] 92);have m:=((bf.new (w.alloc (.cells #[.slice none 0 0,.slice none 0 0] 32)) 3 #[.int .i64 0]).alloc (.cells #[.int .i64 0] 23)).alloc (.cells #[.slice A l.length c,.int .i64 en,.int .i64 0,.slice none 0 0,.slice none 0 0] 92);rw [I] at m
 have t:=(bf.new ((w.alloc (.cells #[.slice none 0 0,.slice none 0 0] 32)).alloc (.cells #[.int .i64 0] 3)) 23 #[.int .i64 0]).alloc (.cells #[.slice A l.length c,.int .i64 en,.int .i64 0,.slice none 0 0,.slice none 0 0] 92);rw [J] at t
 have W:=O (aG (aG (aG (aG (Below.refl w.heap.size w) (ak0 _) (o:=(.cells #[.slice none 0 0,.slice none 0 0] 32))) (by simp) (o:=(.cells #[.int .i64 0] 3))) (by simp;omega) (o:=(.cells #[.int .i64 0] 23))) (by simp;omega) (o:=(.cells #[.slice A l.length c,.int .i64 en,.int .i64 0,.slice none 0 0,.slice none 0 0] 92)));have Tp:=O a;clear a;have B:=O E;clear E;have U:=O m;clear m;have V:=O t;clear t;clear I J K;go_wp2_with fail;refine (MI hF n f _ 0 0 [] _ _ [] r Tp.o (ak2 _) (ak0 _) (ak0 _) (fun i nd h=>by simp [aF] at h) HR.o).mono ?_;intro e w5 hp
 cases r with
 | bad kb =>
  obtain⟨rfl,j⟩:=hp;have d:=B.o.below j (by omega);have C:=U.o.below j (by omega);have L:=V.o.below j (by omega);have S:=O j;clear j;unfold aW;go_wp2_with fail;refine leaves_cons (f:=44) (args:=#[.pointer (some ⟨w.heap.size,0,none⟩),.pointer (some ⟨w.heap.size+1,0,none⟩),.pointer (some ⟨w.heap.size+1+1,0,none⟩)]) (by simp) (by simp [go_sem]) ?_;refine (K6 w.heap.size (w.heap.size+1) (w.heap.size+1+1) _ _ _ _ (pl l en kb) [] _ d C L (by omega) (by omega)).mono ?_;rintro e u' w6 ⟨rfl,rfl,T,Z,he,D⟩;have k0:=T.cell 0;have k1:=T.cell 1;have k2:=Z.cell 0;have k3:=he.cell 0;have P:=O (W.o.trans ((S.o.mono (by omega)).trans D));clear T Z he D d C L;simp [Leaves,settle,results,Tryz.f16,go_sem,k0,k1,k2,k3]
  exact⟨rfl,P.o⟩
 | ok its k1 cO =>
  obtain⟨⟨v,rfl⟩,⟨xs,nv,iv,q,a,G⟩,j⟩:=hp;obtain⟨N,R,rfl⟩:=d_ a.ps.own;obtain⟨M,Q,rfl⟩:=d_ a.row;have d:=B.o.below j (by omega);have C:=U.o.below j (by omega);have L:=V.o.below j (by omega);have S:=O j;clear j;have y:=O a;clear a;have FY:=O G;clear G;have g3:=y.o.ps.blk.cell 3;have g4:=y.o.ps.blk.cell 4;have t0:=d.cell 0;have t1:=d.cell 1;have a0:=C.cell 0;have e0:=L.cell 0;have ft0:=d.frozen 0;have ft1:=d.frozen 1;have fa0:=C.frozen 0;have fe0:=L.frozen 0;go_wp2_with fail;refine leaves_cons (f:=44) (args:=#[.pointer (some ⟨w.heap.size,0,none⟩),.pointer (some ⟨w.heap.size+1,0,none⟩),.pointer (some ⟨w.heap.size+1+1,0,none⟩)]) (by simp) (by simp [go_sem]) ?_;refine (Pg _ _ _ _).mono ?_;rintro e u' w6 ⟨rfl,rfl,rfl⟩;simp [Leaves,settle,results,Tryz.f16,go_sem,t0,t1,a0,e0]
  have qO:=O (W.o.trans (S.o.mono (by omega)));have rn:=j6 (u:=.int .i64 0) (i:=0) (b:=w.heap.size+1+1) (j6 (u:=.int .i64 0) (i:=0) (b:=w.heap.size+1) (j6 (u:=.slice M q Q) (i:=1) (b:=w.heap.size) (j6 (u:=.slice N xs.length R) (i:=0) (b:=w.heap.size) y.o.ps.own (by omega)) (by omega)) (by omega)) (by omega);have ri:=j6 (u:=.int .i64 0) (i:=0) (b:=w.heap.size+1+1) (j6 (u:=.int .i64 0) (i:=0) (b:=w.heap.size+1) (j6 (u:=.slice M q Q) (i:=1) (b:=w.heap.size) (j6 (u:=.slice N xs.length R) (i:=0) (b:=w.heap.size) y.o.row (by omega)) (by omega)) (by omega)) (by omega)
  refine⟨_,xs,rfl,FY.o,⟨⟨_,_,q,rfl,Qr rn (by omega),y.o.len,Qr ri (by omega)⟩,fun x hx=>?_⟩,eF (eF (eF (eF qO.o (ak0 _)) (ak0 _)) (by omega)) (by omega)⟩
  have rk:=jm (base':=w.heap.size+1+1+1) (y.o.ps.kids x hx) (fun b j=>ak1 (y.o.far x hx b j));have rk2:=j6 (u:=.int .i64 0) (i:=0) (b:=w.heap.size+1+1) (j6 (u:=.int .i64 0) (i:=0) (b:=w.heap.size+1) (j6 (u:=.slice M q Q) (i:=1) (b:=w.heap.size) (j6 (u:=.slice N xs.length R) (i:=0) (b:=w.heap.size) rk (by omega)) (by omega)) (by omega)) (by omega);exact Qr rk2 (by omega)
end
end
section
open Go.RowKit Mist
theorem xQ (b o n:Nat):(⟨b,o,none⟩:Addr).add n=⟨b,o+n,none⟩:=by
 unfold Addr.add;split
 ·rename_i h;rw [h];rfl
 ·rfl
theorem eD (n lo hi:Int)(r:Bool)(c:Mist.within n lo hi=r)(w:World):Calls Tryz.prog 88 #[.int .i64 n,.int .i64 lo,.int .i64 hi] w fun e h=>e=.returned (.bool r)∧w=h:=by
 have b:=O c;clear c;by_cases h1:lo≤n
 ·have d:decide (lo≤n)=true:=ak' h1;by_cases h2:n≤hi
  ·have f:decide (n≤hi)=true:=ak' h2;have a:=O (show r=true by rw [← b.o];simp [Mist.within,h1,h2]);go_in
   go_wp2;go_ret;exact⟨bM a.o.symm,rfl⟩
  ·have f:decide (n≤hi)=false:=ala h2;have a:=O (show r=false by rw [← b.o];simp [Mist.within,h2]);go_in
   go_wp2;go_ret;exact⟨bM a.o.symm,rfl⟩
 ·have d:decide (lo≤n)=false:=ala h1;have a:=O (show r=false by rw [← b.o];simp [Mist.within,h1]);go_in
  go_wp2;go_ret;exact⟨bM a.o.symm,rfl⟩
theorem acr (k:Nat)(r:Bool)(c:jf k=r)(w:World):Calls Tryz.prog 164 #[.int .u8 k] w fun e h=>e=.returned (.bool r)∧w=h:=by
 have b:=O c;clear c;by_cases h1:30≤k
 ·have d:decide ((30:Int)≤(k:Int))=true:=ak' (by omega);by_cases h2:k≤33
  ·have f:decide ((k:Int)≤(33:Int))=true:=ak' (by omega);have a:=O (show r=true by rw [← b.o];simp [jf,h1,h2]);go_in
   go_wp2;go_ret;exact⟨bM a.o.symm,rfl⟩
  ·have f:decide ((k:Int)≤(33:Int))=false:=ala (by omega);have a:=O (show r=false by rw [← b.o];simp [jf,h2]);go_in
   go_wp2;go_ret;exact⟨bM a.o.symm,rfl⟩
 ·have d:decide ((30:Int)≤(k:Int))=false:=ala (by omega);have a:=O (show r=false by rw [← b.o];simp [jf,h1]);go_in
  go_wp2;go_ret;exact⟨bM a.o.symm,rfl⟩
theorem aci (k:Nat)(r:Bool)(c:fM k=r)(w:World):Calls Tryz.prog 136 #[.int .u8 k] w fun e h=>e=.returned (.bool r)∧w=h:=by
 have b:=O c;clear c;by_cases h1:40≤k
 ·have d:decide ((40:Int)≤(k:Int))=true:=ak' (by omega);by_cases h2:k≤46
  ·have f:decide ((k:Int)≤(46:Int))=true:=ak' (by omega);have a:=O (show r=true by rw [← b.o];simp [fM,h1,h2]);go_in
   go_wp2;go_ret;exact⟨bM a.o.symm,rfl⟩
  ·have f:decide ((k:Int)≤(46:Int))=false:=ala (by omega);have a:=O (show r=false by rw [← b.o];simp [fM,h2]);go_in
   go_wp2;go_ret;exact⟨bM a.o.symm,rfl⟩
 ·have d:decide ((40:Int)≤(k:Int))=false:=ala (by omega);have a:=O (show r=false by rw [← b.o];simp [fM,h1]);go_in
  go_wp2;go_ret;exact⟨bM a.o.symm,rfl⟩
theorem F4 (k:Nat)(r:Bool)(c:ji k=r)(w:World):Calls Tryz.prog 160 #[.int .u8 k] w fun e i=>e=.returned (.bool r)∧w=i:=by
 have b:=O c;clear c;by_cases h1:1≤k
 ·have d:decide ((1:Int)≤(k:Int))=true:=ak' (by omega);by_cases h2:k≤26
  ·have f:decide ((k:Int)≤(26:Int))=true:=ak' (by omega);by_cases h3:k=25
   ·have h:((k:Int) != 25)=false:=by rw [h3];rfl
    have a:=O (show r=false by rw [← b.o];rw [h3];decide);go_in
    go_wp2;go_ret;exact⟨bM a.o.symm,rfl⟩
   ·have h:((k:Int) != 25)=true:=by rw [bne_iff_ne];omega
    have a:=O (show r=true by rw [← b.o];simp [ji,h1,h2,h3]);go_in
    go_wp2;go_ret;exact⟨bM a.o.symm,rfl⟩
  ·have f:decide ((k:Int)≤(26:Int))=false:=ala (by omega);have a:=O (show r=false by rw [← b.o];simp [ji,h2]);go_in
   go_wp2;go_ret;exact⟨bM a.o.symm,rfl⟩
 ·have d:decide ((1:Int)≤(k:Int))=false:=ala (by omega);have a:=O (show r=false by rw [← b.o];simp [ji,h1]);go_in
  go_wp2;go_ret;exact⟨bM a.o.symm,rfl⟩
theorem aaz (k:Nat)(r:Bool)(c:decide (k=34)=r)(w:World):Calls Tryz.prog 166 #[.int .u8 k] w fun e f=>e=.returned (.bool r)∧w=f:=by
 have b:=O c;clear c;by_cases h1:k=34
 ·have d:((k:Int) == 34)=true:=by rw [h1];rfl
  have a:=O (show r=true by rw [← b.o];simp [h1]);go_in
  go_wp2;go_ret;exact⟨bM a.o.symm,rfl⟩
 ·have d:((k:Int) == 34)=false:=by rw [akW];omega
  have a:=O (show r=false by rw [← b.o];simp [h1]);go_in
  go_wp2;go_ret;exact⟨bM a.o.symm,rfl⟩
theorem afl (k:Nat)(r:Bool)(c:decide (k=25)=r)(w:World):Calls Tryz.prog 163 #[.int .u8 k] w fun e f=>e=.returned (.bool r)∧w=f:=by
 have b:=O c;clear c;by_cases h1:k=25
 ·have d:((k:Int) == 25)=true:=by rw [h1];rfl
  have a:=O (show r=true by rw [← b.o];simp [h1]);go_in
  go_wp2;go_ret;exact⟨bM a.o.symm,rfl⟩
 ·have d:((k:Int) == 25)=false:=by rw [akW];omega
  have a:=O (show r=false by rw [← b.o];simp [h1]);go_in
  go_wp2;go_ret;exact⟨bM a.o.symm,rfl⟩
theorem afd (k:Nat)(r:Bool)(c:decide (k=1)=r)(w:World):Calls Tryz.prog 165 #[.int .u8 k] w fun e f=>e=.returned (.bool r)∧w=f:=by
 have b:=O c;clear c;by_cases h1:k=1
 ·have d:((k:Int) == 1)=true:=by rw [h1];rfl
  have a:=O (show r=true by rw [← b.o];simp [h1]);go_in
  go_wp2;go_ret;exact⟨bM a.o.symm,rfl⟩
 ·have d:((k:Int) == 1)=false:=by rw [akW];omega
  have a:=O (show r=false by rw [← b.o];simp [h1]);go_in
  go_wp2;go_ret;exact⟨bM a.o.symm,rfl⟩
def JM:Pd→Nat
 | .expr=>160
 | .typ=>164
 | .param=>166
 | .put=>163
 | .num=>165
def Ie (p:Pd):Value:=.func (.func (JM p)) #[] #[]
theorem MF (p:Pd)(k:Nat)(r:Bool)(a:p.is k=r)(w:World):Calls Tryz.prog (JM p) #[.int .u8 k] w fun e b=>e=.returned (.bool r)∧w=b:=by
 cases p with
 | expr=>exact F4 k r a w
 | typ=>exact acr k r a w
 | param=>exact aaz k r a w
 | put=>exact afl k r a w
 | num=>exact afd k r a w
theorem TL (k:Nat)(r:Bool)(d:Pd.expr.is k=r)(w:World)(a b:Value)(g:Nat)(T:TypeId)(h:bf w g T #[a,b,Ie .expr]):Calls Tryz.prog 170 #[.int .u8 k,.pointer (some ⟨g,0,none⟩)] w fun e f=>e=.returned (.bool (!r))∧w=f:=by
 have c2:=h.cell 2;have c:=O (MF .expr k r d w);clear d;simp only [Ie,JM] at c2 c
 go_in
 go_wp2_with (refine c.o.mono ?_;rintro e f ⟨rfl,rfl⟩)
 go_ret;exact⟨rfl,rfl⟩
theorem Yz (k:Nat)(r:Bool)(d:Pd.typ.is k=r)(w:World)(a b:Value)(g:Nat)(T:TypeId)(h:bf w g T #[a,b,Ie .typ]):Calls Tryz.prog 170 #[.int .u8 k,.pointer (some ⟨g,0,none⟩)] w fun e f=>e=.returned (.bool (!r))∧w=f:=by
 have c2:=h.cell 2;have c:=O (MF .typ k r d w);clear d;simp only [Ie,JM] at c2 c
 go_in
 go_wp2_with (refine c.o.mono ?_;rintro e f ⟨rfl,rfl⟩)
 go_ret;exact⟨rfl,rfl⟩
theorem Pb (k:Nat)(r:Bool)(d:Pd.param.is k=r)(w:World)(a b:Value)(g:Nat)(T:TypeId)(h:bf w g T #[a,b,Ie .param]):Calls Tryz.prog 170 #[.int .u8 k,.pointer (some ⟨g,0,none⟩)] w fun e f=>e=.returned (.bool (!r))∧w=f:=by
 have c2:=h.cell 2;have c:=O (MF .param k r d w);clear d;simp only [Ie,JM] at c2 c
 go_in
 go_wp2_with (refine c.o.mono ?_;rintro e f ⟨rfl,rfl⟩)
 go_ret;exact⟨rfl,rfl⟩
theorem Yy (k:Nat)(r:Bool)(d:Pd.put.is k=r)(w:World)(a b:Value)(g:Nat)(T:TypeId)(h:bf w g T #[a,b,Ie .put]):Calls Tryz.prog 170 #[.int .u8 k,.pointer (some ⟨g,0,none⟩)] w fun e f=>e=.returned (.bool (!r))∧w=f:=by
 have c2:=h.cell 2;have c:=O (MF .put k r d w);clear d;simp only [Ie,JM] at c2 c
 go_in
 go_wp2_with (refine c.o.mono ?_;rintro e f ⟨rfl,rfl⟩)
 go_ret;exact⟨rfl,rfl⟩
theorem Yx (k:Nat)(r:Bool)(d:Pd.num.is k=r)(w:World)(a b:Value)(g:Nat)(T:TypeId)(h:bf w g T #[a,b,Ie .num]):Calls Tryz.prog 170 #[.int .u8 k,.pointer (some ⟨g,0,none⟩)] w fun e f=>e=.returned (.bool (!r))∧w=f:=by
 have c2:=h.cell 2;have c:=O (MF .num k r d w);clear d;simp only [Ie,JM] at c2 c
 go_in
 go_wp2_with (refine c.o.mono ?_;rintro e f ⟨rfl,rfl⟩)
 go_ret;exact⟨rfl,rfl⟩
end
