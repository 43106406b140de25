/-
  A part of the proof.
-/
import Derived.Test.YtajfdjikimiapaaGreatDoorS05
set_option linter.all false
set_option maxRecDepth 100000
set_option maxHeartbeats 4000000
namespace Go.Proofs.YtajfdjikimiapaaGreatDoor
section
open Go.RowKit Mist
attribute [local go_sem] au aN aV aM aG
structure PS (g:Nat) (tv:Value) (l:List Tok) (en:Int) (iv:Value) (w:World) (k:Nat) (xs:List NV) (nv:Value):Prop where
 blk:aZ w g 134 #[tv,.int .i64 en,.int .i64 k,nv,iv]
 own:w.ownsRow g 39 5 nv xs.length (jH xs)
 kids:∀ x ∈ xs,gX w x.2 x.1.kids
 toks:Cv w g tv l
 env : Lib.TabBelow Tryz.prog g w "strings.asciiSpace" IntKind.u8 Lib.asciiSpaceTab
theorem oq {g : Nat} {w w' : World} (h : Lib.TabBelow Tryz.prog g w "strings.asciiSpace" IntKind.u8 Lib.asciiSpaceTab) (c : Below g w w') : Lib.TabBelow Tryz.prog g w' "strings.asciiSpace" IntKind.u8 Lib.asciiSpaceTab := fun b a => h b (c.trans a)
section
variable {g:Nat} {tv:Value} {l:List Tok} {en:Int} {iv:Value} {w w':World} {k:Nat} {xs:List NV} {nv:Value}
theorem PS.lt (h:PS g tv l en iv w k xs nv):g < w.heap.size:=h.blk.lt
theorem PS.YF (h:PS g tv l en iv w k xs nv):∀ b,nv.ownBlock=some b→g≤b:=fun b a=>(h.own.lt b a).1
theorem PS.ado (h:PS g tv l en iv w k xs nv):∀ b,nv.ownBlock=some b→b < w.heap.size:=fun b a=>(h.own.lt b a).2
theorem PS.low (h:PS g tv l en iv w k xs nv){row:Option Nat}(m:Mv g nv.ownBlock w row w'):Below g w w':=m.below h.lt (aiv _) h.YF
theorem PS.Oc (h:PS g tv l en iv w k xs nv){row:Option Nat}(m:Mv g nv.ownBlock w row w'){v:Value}{ks:List Int}(a:gX w v ks):gX w' v ks :=
 m.row a (bJ a h.blk (by decide)) (eT a h.own (by decide))
theorem PS.below (h:PS g tv l en iv w k xs nv)(a:Below w.heap.size w w'):PS g tv l en iv w' k xs nv :=
 ⟨h.blk.below a h.lt,own_below h.own a,fun x b=>own_below (h.kids x b) a,h.toks.below (a.mono (aiw h.lt)),oq h.env (a.mono (aiw h.lt))⟩
theorem PS.afH (h:PS g tv l en iv w k xs nv):Env w:=⟨g,aiw h.lt,h.env⟩
theorem PS.step (h:PS g tv l en iv w k xs nv):PS g tv l en iv (w.setCell ⟨g,2,none⟩ (.int .i64 ((k:Int)+1))) (k+1) xs nv :=
 have m:Mv g nv.ownBlock w nv.ownBlock _:=Mv.jD h.blk 2 (.int .i64 ((k:Int)+1))
 ⟨(by have:=h.blk.jD 2 (.int .i64 ((k:Int)+1));simpa using this),ownsRow_setCell_other h.own (bJ h.own h.blk (by decide)) _,fun x a=>h.Oc m (h.kids x a),h.toks.below (h.low m),oq h.env (h.low m)⟩
theorem PS.add (h:PS g tv l en iv w k xs nv){w1:World}{l7:Value}{x:NV}(c:w.grownBy w1 nv.ownBlock)(a:w1.ownsRow g 39 5 l7 (xs.length+1) (jH xs ++ gu x))(b:gX w x.2 x.1.kids):PS g tv l en iv (w1.setCell ⟨g,3,none⟩ l7) k (xs ++ [x]) l7:=by
 have d:=h.blk.grown c (fun e=>bJ h.own h.blk (by decide) e.symm)
 have keep:∀ {v:Value} {cs:List Int},gX w v cs→gX (w1.setCell ⟨g,3,none⟩ l7) v cs:=fun b =>
  ownsRow_setCell_other (b.kept c (eT b h.own (by decide))) (bJ (b.kept c (eT b h.own (by decide))) d (by decide)) _
 have f:Below g w (w1.setCell ⟨g,3,none⟩ l7):=dS ((Below.refl _ _).grown c (aiw h.lt) h.YF) (aiv _)
 refine⟨?_,?_,fun y hy=>?_,h.toks.below f,oq h.env f⟩
 ·have:=d.jD 3 l7;simpa using this
 ·rw [aiA,rH];have e:jH [x]=gu x:=by simp [jH]
  rw [e];exact ownsRow_setCell_other a (bJ a d (by decide)) _
 ·rcases List.mem_append.1 hy with hy | hy
  ·exact keep (h.kids y hy)
  ·rw [List.mem_singleton.1 hy];exact keep b
structure Far (g:Nat) (nv:Value) (xs:List NV) (b:Nat):Prop where
 lt:g < b
 row:nv.ownBlock ≠ some b
 kids:∀ x ∈ xs,x.2.ownBlock ≠ some b
theorem PS.new (h:PS g tv l en iv w k xs nv){b:Nat}(a:w.heap.size≤b):Far g nv xs b :=
 ⟨aiI h.lt a,fun e=>by have:=h.ado b e;omega,fun x c e=>by have:=(World.ownsRow.lt (h.kids x c) b e).2;omega⟩
theorem PS.far (h:PS g tv l en iv w k xs nv){b:Nat}(f:Far g nv xs b)(i:Nat)(u:Value):PS g tv l en iv (w.setCell ⟨b,i,none⟩ u) k xs nv :=
 ⟨h.blk.far (p:=⟨b,i,none⟩) (Nat.ne_of_lt f.lt) u,ownsRow_setCell_other h.own f.row u,fun x a=>ownsRow_setCell_other (h.kids x a) (f.kids x a) u,h.toks.below (dS (Below.refl _ _) (aiw f.lt)),oq h.env (dS (Below.refl _ _) (aiw f.lt))⟩
theorem PS.alloc (h:PS g tv l en iv w k xs nv)(o:Obj):PS g tv l en iv (w.alloc o) k xs nv:=h.below ((Below.refl _ _).alloc (aiv _) o)
theorem PS.drew (h:PS g tv l en iv w k xs nv):PS g tv l en iv w.drew k xs nv:=h.below (Below.drew (Below.refl _ _))
theorem PS.drewN (h:PS g tv l en iv w k xs nv)(n:Nat):PS g tv l en iv (w.drewN n) k xs nv:=h.below (jJ (Below.refl _ _) n)
end
theorem gY (g:Nat)(tv:Value)(l:List Tok)(en:Int)(iv:Value)(w:World)(k:Nat)(xs:List NV)(nv:Value)(h:PS g tv l en iv w k xs nv)(u:k≤l.length)(x:l.length≤1000) :
  Calls Tryz.prog 145 #[.pointer (some ⟨g,0,none⟩)] w fun e w'=>e=.returned (.agg #[.int .u8 (tg l k).kind,.string (aU (tx l k)),.int .i64 (pl l en k)])∧Below w.heap.size w w':=by
 have t:=h.blk.cell 0;have c1:=h.blk.cell 1;have c2:=h.blk.cell 2;have j:=h.lt;obtain⟨A,c,rfl,i,d⟩:=h.toks;have n:=O (show nS w (.slice A l.length c) l from ⟨A,c,rfl,i,d.more (aiw j)⟩);clear d h;by_cases a:k < l.length
 ·obtain⟨b,o,rfl,d⟩:=n.o.agQ (by omega);have D:=d.kind k a;have E:=d.text k a;have F:=d.at_ k a;have q:=d.lt;have r:=O d;clear d;have y:((k:Int) == (l.length:Int))=false:=by simp;omega
  have B:(0:Int)≤(k:Int):=by omega
  have C:(k:Int) < (l.length:Int):=by omega
  have f:=O (show pl l en k=(tg l k).at_ by unfold pl;rw [if_pos a]);go_in
  go_wp2_with fail;go_quiet (fail)
  go_wp2_with fail;go_region
  all_goals
   go_wp2;refine bodyPost_ret (v:=.agg #[.int .u8 (tg l k).kind,.string (aU (tg l k).text),.int .i64 (tg l k).at_]) (by simp [results,Tryz.f145,go_sem]) rfl ?_
   refine⟨by rw [f.o];rfl,?_⟩
   repeat (first | exact Below.refl _ _ | refine dS ?_ (aiv _) | refine jJ ?_ _ | refine aF ?_ (aiv _))
 ·obtain rfl:k=l.length:=by omega
  have m:=O (rU l l.length (aiv _));have f:=O (show pl l en l.length=en by unfold pl;rw [if_neg (by omega)]);go_in
  go_wp2_with fail;go_quiet (fail)
  go_wp2_with fail;refine bodyPost_ret (v:=.agg #[.int .u8 0,.string (aU []),.int .i64 en]) (by simp [results,Tryz.f145,go_sem];rfl) rfl ?_
  refine⟨by rw [f.o];unfold tx;rw [m.o];rfl,?_⟩
  repeat (first | exact Below.refl _ _ | refine dS ?_ (aiv _) | refine jJ ?_ _ | refine aF ?_ (aiv _))
theorem vT (a b c:Value)(w:World):(Instr.field 131 (.agg #[a,b,c]) 0).run Tryz.prog w=.ok a w:=by kernel_rfl
theorem nA (a b c:Value)(w:World):(Instr.field 131 (.agg #[a,b,c]) 1).run Tryz.prog w=.ok b w:=by kernel_rfl
theorem Pk (a b c:Value)(w:World):(Instr.field 131 (.agg #[a,b,c]) 2).run Tryz.prog w=.ok c w:=by kernel_rfl
theorem qI (g:Nat)(tv:Value)(l:List Tok)(en:Int)(iv:Value)(w:World)(k:Nat)(xs:List NV)(nv:Value)(h:PS g tv l en iv w k xs nv)(c:k≤l.length)(d:l.length≤1000) :
  Calls Tryz.prog 146 #[.pointer (some ⟨g,0,none⟩)] w fun e w'=>e=.panicked [{ v:=.iface 136 (.agg #[.int .i64 (pl l en k)]),recovered:=false }]∧Below w.heap.size w w':=by
 have H:=O h;clear h;have f2:=Pk;go_in
 go_wp2_with fail;refine (gY g tv l en iv _ k xs nv H.o c d).mono ?_;rintro e w1⟨rfl,a⟩;have b:=O a;clear a;go_wp2_with fail;exact⟨rfl,rfl,b.o⟩
theorem contains_one (x y:Bs)(b c T:Nat)(fr:Nat × Nat)(w:World)(a:w.heap[b]? = some (.cells (iR [x]) T fr))(r:Bool)(d:decide (y=x)=r) :
  Calls Tryz.prog 138 #[.slice (some ⟨b,0,none⟩) 1 c,.string (aU y)] w fun e w'=>e=.returned (.bool r)∧w=w':=by
 refine (rE [x] y b c 1 T fr w a (by simp) rfl).mono ?_;rintro e w' ⟨rfl,rfl⟩
 refine⟨?_,rfl⟩
 rw [← d]
 congr 2
 by_cases h:y=x
 ·subst h;simp [hasB]
 ·simp [hasB,h]
theorem tN (x:Bs)(E:Mist.kind x=3∨Mist.kind x=4)(g:Nat)(tv:Value)(l:List Tok)(en:Int)(iv:Value)(w:World)(k:Nat)(xs:List NV)(nv:Value)(h:PS g tv l en iv w k xs nv)(n:k≤l.length)(u:l.length≤1000)(C:∀ t ∈ l,Mist.kind t.text=t.kind)
  (b c T:Nat) (fr:Nat × Nat) (d:w.heap[b]? = some (.cells (iR [x]) T fr)) (r:Bool) (D:decide (tx l k=x)=r) :
  Calls Tryz.prog 172 #[.pointer (some ⟨g,0,none⟩),.slice (some ⟨b,0,none⟩) 1 c] w fun e w'=>e=.returned (.bool r)∧Below w.heap.size w w':=by
 have m:b < w.heap.size:=(ais.1 d).1;have H:=O h;clear h;have F:=O d;clear d;have j:=O D;clear D
 have i:=O (show tx l k=x→(tg l k).kind=Mist.kind x by
  intro e
  have q:k < l.length:=by
   rcases Nat.lt_or_ge k l.length with h1 | h1
   ·exact h1
   ·exfalso
    rw [tx,rU l k h1] at e
    rw [← e] at E
    exact absurd E (by decide)
  rw [← C _ (Iw l k q),show (tg l k).text=x from e])
 clear C;have f0:=vT;have fin:∀ (w1 A:World) (cs:Array Value),Below w.heap.size w w1→(w1.alloc (.cells cs 131)).heap[b]? = some (.cells (iR [x]) T fr):=fun w1 A cs d=>mX ((d.block b m).trans F.o) _
 have f:=O fin;clear fin;by_cases h3:(tg l k).kind=3
 ·have B:(((tg l k).kind:Int) == 3)=true:=by simp [h3]
  clear h3;go_in
  go_wp2_with fail;refine (gY g tv l en iv _ k xs nv H.o n u).mono ?_;rintro e w1⟨rfl,d⟩;have a:=O d;clear d;go_wp2_with fail;refine (contains_one x _ b c T fr _ (f.o _ w1 _ a.o) r j.o).mono ?_;rintro e A⟨rfl,rfl⟩;go_wp2_with fail;go_ret;exact⟨rfl,aF a.o a.o.size⟩
 ·by_cases h4:(tg l k).kind=4
  ·have B:(((tg l k).kind:Int) == 3)=false:=by simp [h4]
   have G:(((tg l k).kind:Int) == 4)=true:=by simp [h4]
   clear h3 h4;go_in
   go_wp2_with fail;refine (gY g tv l en iv _ k xs nv H.o n u).mono ?_;rintro e w1⟨rfl,d⟩;have a:=O d;clear d;go_wp2_with fail;refine (contains_one x _ b c T fr _ (f.o _ w1 _ a.o) r j.o).mono ?_;rintro e A⟨rfl,rfl⟩;go_wp2_with fail;go_ret;exact⟨rfl,aF a.o a.o.size⟩
  ·have B:(((tg l k).kind:Int) == 3)=false:=by simp;omega
   have G:(((tg l k).kind:Int) == 4)=false:=by simp;omega
   have y:r=false:=by
    rw [← j.o,decide_eq_false_iff_not];intro e
    have:=i.o e
    omega
   subst y;clear h3 h4;go_in
   go_wp2_with fail;refine (gY g tv l en iv _ k xs nv H.o n u).mono ?_;rintro e w1⟨rfl,d⟩;have a:=O d;clear d;go_wp2_with fail;go_ret;exact⟨rfl,aF a.o a.o.size⟩
def g_ (l:List Tok)(en:Int)(k:Nat):Value:=.agg #[.int .u8 (tg l k).kind,.string (aU (tx l k)),.int .i64 (pl l en k)]
theorem qV (g:Nat)(tv:Value)(l:List Tok)(en:Int)(iv:Value)(w:World)(k:Nat)(xs:List NV)(nv:Value)(h:PS g tv l en iv w k xs nv)(m:k≤l.length)(n:l.length≤1000) :
  Calls Tryz.prog 147 #[.pointer (some ⟨g,0,none⟩)] w fun e w'=>e=.returned (.agg #[.int .u8 (tg l k).kind,.string (aU (tx l k)),.int .i64 (pl l en k)])∧PS g tv l en iv w' (k+1) xs nv∧Mv g nv.ownBlock w nv.ownBlock w':=by
 have H:=O h;clear h;have f:=O (H.o.new (aiv _));have d:=aZ.new w 131 #[.int .u8 0,.string ⟨#[]⟩,.int .i64 0];have r:¬ w.heap.size=g:=by have:=H.o.lt;omega
 go_in
 go_wp2_with fail;refine (gY g tv l en iv _ k xs nv (H.o.alloc _) m n).mono ?_;rintro e w1⟨rfl,c⟩;have a:=d.below c (by simp);have i:=O (((Mv.refl (g:=g) (r0:=nv.ownBlock) (w:=w)).nT (o:=.cells #[.int .u8 0,.string ⟨#[]⟩,.int .i64 0] 131)).zo c);have b:=O ((H.o.alloc (.cells #[.int .u8 0,.string ⟨#[]⟩,.int .i64 0] 131)).below c);clear c d;have c2:=b.o.blk.cell 2;have f2:=b.o.blk.frozen 2;have q:=b.o.lt;have j:=a.lt;have r0:=a.cell 0;have r1:=a.cell 1;have r2:=a.cell 2;have t:=a.frozen 0;have u:=a.frozen 1;have x:=a.frozen 2;clear a;go_wp2_with fail;refine bodyPost_ret (v:=g_ l en k) (by simp [results,go_sem,g_,r0,r1,r2,j]) rfl ?_;exact⟨rfl,by (repeat (first | exact b.o.step | refine PS.alloc ?_ _ | refine PS.far ?_ f.o _ _)),by (repeat (first | exact i.o | refine Mv.WM ?_ (aiv _) | refine Mv.nT ?_ | refine Mv.acN ?_))⟩
end
section
open Go.RowKit Mist
def iA (D:List Nat):Array Value:=(D.map fun (d:Nat)=>Value.int .i64 (d:Int)).toArray
theorem Dn (D:List Nat)(j v:Nat):(iA D).setIfInBounds j (.int .i64 (v:Int))=iA (D.set j v):=by
 unfold iA;rw [ail,List.map_set]
theorem qC (D:List Nat)(j:Nat)(h:j < D.length):(iA D)[j]? = some (.int .i64 ((D.getD j 0:Nat):Int)):=by
 unfold iA;rw [List.getElem?_toArray,List.getElem?_map,aip h];simp [ait,aip h]
def sU (v:Nat):List Int→List Nat→List Nat
 | [],D=>D
 | k :: r,D=>sU v r (D.set k.toNat (v+1))
def mD (i:Nat)(D:List Nat):List Nat:=if D.getD i 0=0 then D.set i 1 else D
def pX (ns:List Nd)(i:Nat)(D:List Nat):List Nat:=sU ((mD i D).getD i 0) ((ns[i]?.map Nd.kids).getD []) (mD i D)
def Rw (ns:List Nd):Nat→List Nat→List Nat
 | 0,D=>D
 | i+1,D=>Rw ns i (pX ns i D)
def gQ (ns:List Nd):List Nat:=Rw ns ns.length (List.replicate ns.length 0)
theorem Fz (v:Nat):∀ (ks:List Int) (D:List Nat),(sU v ks D).length=D.length
 | [],_=>rfl
 | k :: r,D=>by rw [sU,Fz v r,List.length_set]
theorem wQ (i:Nat)(D:List Nat):(mD i D).length=D.length:=by unfold mD;split <;> simp
theorem Rx (ns:List Nd)(i:Nat)(D:List Nat):(pX ns i D).length=D.length:=by rw [pX,Fz,wQ]
theorem wR (ns:List Nd):∀ (i:Nat) (D:List Nat),(Rw ns i D).length=D.length
 | 0,_=>rfl
 | i+1,D=>by rw [Rw,wR ns i,Rx]
theorem qK (D:List Nat)(i j v:Nat):(D.set i v).getD j 0=if i=j∧j < D.length then v else D.getD j 0:=by
 simp only [ait,List.getElem?_set];by_cases h:i=j
 ·subst h;by_cases h2:i < D.length
  ·simp [h2]
  ·simp [h2]
 ·simp [h]
def kK (b:Nat)(D:List Nat):Prop:=∀ j,D.getD j 0≤b
theorem kK.set {b v i:Nat}{D:List Nat}(h:kK b D)(hv:v≤b):kK b (D.set i v):=fun j=>by
 rw [qK];split
 ·exact hv
 ·exact h j
theorem kK.mono {a b:Nat}{D:List Nat}(h:kK a D)(c:a≤b):kK b D:=fun j=>Nat.le_trans (h j) c
theorem kK.sU {b v:Nat}(hv:v+1≤b):∀ (ks:List Int) {D:List Nat},kK b D→kK b (sU v ks D)
 | [],_,h=>h
 | _ :: r,_,h=>kK.sU hv r (h.set hv)
theorem kK.mD {b i:Nat}{D:List Nat}(h:kK b D)(a:1≤b):kK b (mD i D):=by
 unfold Go.Proofs.YtajfdjikimiapaaGreatDoor.mD;split
 ·exact h.set a
 ·exact h
theorem kK.pX {b i:Nat}{ns:List Nd}{D:List Nat}(h:kK b D)(a:1≤b):kK (b+1) (pX ns i D) :=
 kK.sU (Nat.succ_le_succ (h.mD a i)) _ ((h.mD a).mono (Nat.le_succ _))
theorem Cy (n b:Nat):kK b (List.replicate n 0):=fun j=>by
 rw [ait,List.getElem?_replicate];split <;> simp
structure yY (w:World) (b o:Nat) (xs:List NV):Prop where
 lt:b < w.heap.size
 kv:∀ (i:Nat) x,xs[i]? = some x→w.cell? ⟨b,o+i * 5+3,none⟩=some x.2
 kids:∀ x ∈ xs,∃ A c,x.2=.slice A x.1.kids.length c∧x.1.kids.length≤1000000∧(0 < x.1.kids.length→∃ bk ok,A=some ⟨bk,ok,none⟩∧bk < w.heap.size∧∀ (j:Nat) k,x.1.kids[j]? = some k→w.cell? ⟨bk,ok+j,none⟩=some (.int .i64 k))
theorem yY.below {w w':World}{b o:Nat}{xs:List NV}(h:yY w b o xs)(a:Below w.heap.size w w'):yY w' b o xs :=
 ⟨aiI h.lt a.size,fun i x d=>(a.cell (by exact h.lt)).trans (h.kv i x d),fun x d=>by
  obtain⟨A,c,h1,h3,h2⟩:=h.kids x d
  refine⟨A,c,h1,h3,fun h0=>?_⟩
  obtain⟨m,ok,e,f,n⟩:=h2 h0;exact⟨m,ok,e,aiI f a.size,fun j k q=>(a.cell (by exact f)).trans (n j k q)⟩⟩
theorem DJ {xs:List NV}{i:Nat}{x:NV}(h:xs[i]? = some x):(((aj xs)[i]?).map Nd.kids).getD []=x.1.kids:=by
 unfold aj;rw [List.getElem?_map,h];rfl
theorem FQ (n:Nat):madeCells #[.int .i64 0] n=iA (List.replicate n 0):=by
 unfold madeCells iA;apply Array.ext
 ·simp
 ·intro i h1 h2;simp [Nat.mod_one]
theorem Nk (b o c m d:Nat)(B:Option Addr)(xs:List NV)(w:World)(hN:yY w b o xs)(hW:Wf (aj xs))(hn:xs.length≤100000) :
  Calls Tryz.prog 99 #[.agg #[.slice (some ⟨b,o,none⟩) xs.length c,.slice B m d]] w fun e w'=>∃ g,e=.returned (.slice (some ⟨g,0,none⟩) xs.length xs.length)∧w.heap.size≤g∧aZ w' g 3 (iA (gQ (aj xs)))∧Below w.heap.size w w':=by
 obtain⟨n,Q⟩:∃ n,n=xs.length:=⟨_,rfl⟩;rw [← Q] at hn ⊢
 have pU:=O Q;clear Q;have HN:=O hN;clear hN;have HW:=O hW;clear hW;have Y:=run_make_row' (P:=Tryz.prog) 23 3 (.int .i64 0) 8 Tryz.underlying23 mE rfl .i64 .i64 n (by omega) (by omega) (w.alloc (.cells #[.slice (some ⟨b,o,none⟩) n c,.slice B m d] 25));rw [FQ] at Y
 go_in
 go_wp2_with fail;have M:=aZ.new (w.alloc (.cells #[.slice (some ⟨b,o,none⟩) n c,.slice B m d] 25)) 3 (iA (List.replicate n 0));rw [show (w.alloc (.cells #[.slice (some ⟨b,o,none⟩) n c,.slice B m d] 25)).heap.size=w.heap.size+1 by simp] at M
 have U:=O M;clear M;have V:=O ((aZ.new w 25 #[.slice (some ⟨b,o,none⟩) n c,.slice B m d]).alloc (.cells (iA (List.replicate n 0)) 3));have gN:=O (aF (aF (Below.refl w.heap.size w) (aiv _) (o:=.cells #[.slice (some ⟨b,o,none⟩) n c,.slice B m d] 25)) (by simp) (o:=.cells (iA (List.replicate n 0)) 3));clear Y;go_loopw [4] (fun i wr=>∃ (k:Nat) (D:List Nat),k≤n∧i=.int .i64 ((k:Int) - 1)∧Hid (D.length=n)∧Hid (aZ wr (w.heap.size+1) 3 (iA D))∧Hid (aZ wr w.heap.size 25 #[.slice (some ⟨b,o,none⟩) n c,.slice B m d])∧Hid (Rw (aj xs) k D=gQ (aj xs))∧Hid (kK (n - k+1) D)∧Hid (Below w.heap.size w wr)) (fun i _=>(intOf i+1).toNat)
 case atStart=>exact⟨n,List.replicate n 0,aiv _,rfl,O (by simp),U,V,O (by unfold gQ;rw [bW,← pU.o]),O (Cy _ _),gN⟩
 case round =>
  clear U V gN;obtain⟨k,D,hk,rfl,Gm,T,HT,HD,HA,HL⟩:=hrel;rcases Nat.eq_zero_or_pos k with h0 | h0
  ·subst h0;have HD2:=O (show D=gQ (aj xs) from HD.o);go_wp2_with fail;go_ret;exact⟨_,rfl,by omega,by rw [← HD2.o];exact T.o,HL.o⟩
  ·obtain⟨k,rfl⟩:∃ k0,k=k0+1:=⟨k - 1,by omega⟩;rw [show (((k+1:Nat):Int) - 1)=(k:Int) by omega];have tc0:=HT.o.cell 0;have tc1:=HT.o.cell 1
   have dk:wr.cell? ⟨w.heap.size+1,k,none⟩=some (.int .i64 ((D.getD k 0:Nat):Int)):=by
    rw [T.o.cell k];exact qC D k (by rw [Gm.o];omega)
   have fk:=T.o.frozen k;have i1:(0:Int)≤(k:Int):=by omega
   have i2:(k:Int) < (n:Int):=by omega
   obtain⟨v,hv⟩:∃ v,v=D.getD k 0:=⟨_,rfl⟩;rw [← hv] at dk
   have W:=O hv;clear hv;obtain⟨x,hx⟩:∃ x,xs[k]? = some x:=⟨_,aip (by rw [← pU.o];omega)⟩;have HX:=O hx;have HK:=O (HN.o.below HL.o);have kc:=HK.o.kv k x hx;obtain⟨A,ca,Z,hxl,hxk⟩:=HN.o.kids x (aiy hx);rw [Z] at kc
   have BG:=O hxk;clear hx Z hxk;have hbl:=HN.o.lt;by_cases hz:v=0
   ·subst hz;have n0:(((0:Nat):Int) == 0)=true:=rfl;go_wp2_with fail;have H:=O (show aZ (wr.setCell ⟨w.heap.size+1,k,none⟩ (.int .i64 1)) (w.heap.size+1) 3 (iA (mD k D)) from (by unfold mD;rw [if_pos W.o.symm,← Dn];exact T.o.jD k _));have K:=O (show aZ (wr.setCell ⟨w.heap.size+1,k,none⟩ (.int .i64 1)) w.heap.size 25 #[.slice (some ⟨b,o,none⟩) n c,.slice B m d] from HT.o.far (by simp) _);have rA:=O (show Below w.heap.size w (wr.setCell ⟨w.heap.size+1,k,none⟩ (.int .i64 1)) from dS HL.o (by simp));have H1:=O (show (mD k D).getD k 0=1 from (by unfold mD;rw [if_pos W.o.symm,qK,if_pos ⟨rfl,by rw [Gm.o];omega⟩]));have t:=O (HA.o.mD (i:=k) (by omega));have hv1:1≤n - (k+1)+1:=by have:=t.o k;rw [H1.o] at this;exact this
    have I:=O (wQ k D);go_loopw [34] (fun j S=>∃ (a:Nat) (h:List Nat),a≤x.1.kids.length∧j=.int .i64 a∧Hid (h.length=n)∧Hid (aZ S (w.heap.size+1) 3 (iA h))∧Hid (aZ S w.heap.size 25 #[.slice (some ⟨b,o,none⟩) n c,.slice B m d])∧Hid (sU 1 (x.1.kids.drop a) h=pX (aj xs) k D)∧Hid (h.getD k 0=1)∧Hid (kK (n - k+1) h)∧Hid (Below w.heap.size w S)) (fun j _=>x.1.kids.length - (intOf j).toNat)
    case atStart=>exact⟨0,mD k D,aix _,rfl,O (I.o.trans Gm.o),H,K,O (by rw [List.drop_zero,pX,H1.o,DJ HX.o]),H1,O (t.o.mono (by omega)),rA⟩
    case round =>
     obtain⟨a,h,hj,rfl,G,E,X,y,C,u,L⟩:=hrel;by_cases q:a < x.1.kids.length
     case pos =>
      obtain⟨bk,ok,rfl,N,F⟩:=BG.o (by omega);obtain⟨kq,r⟩:∃ kq,x.1.kids[a]? = some kq:=⟨_,aip q⟩;have R:=HW.o k x.1 (by unfold aj;rw [List.getElem?_map,HX.o];rfl) kq (aiy r);obtain⟨f,rfl⟩:∃ f:Nat,kq=(f:Int):=⟨kq.toNat,by omega⟩;have cj:=(L.o.cell (p:=⟨bk,ok+a,none⟩) N).trans (F a f r)
      have J:=O (show x.1.kids.drop a=(f:Int) :: x.1.kids.drop (a+1) by
       rw [aiJ q,(aiq.1 r).2])
      have ck:wr.cell? ⟨w.heap.size+1,k,none⟩=some (.int .i64 1):=by
       rw [E.o.cell k,qC h k (by rw [G.o];omega),C.o];rfl
      have fn:=E.o.frozen f
      have cn:wr.cell? ⟨w.heap.size+1,f,none⟩=some (.int .i64 ((h.getD f 0:Nat):Int)):=by
       rw [E.o.cell f,qC h f (by rw [G.o];omega)]
      have k1:(0:Int)≤(f:Int):=by omega
      have k2:(f:Int) < (n:Int):=by omega
      have hkk:f < k:=by omega
      clear F r R;have j1:decide ((a:Int) < (x.1.kids.length:Int))=true:=aiG (by omega);have j2:decide (a < x.1.kids.length)=true:=aiG q;go_wp2_with fail
      refine⟨⟨a+1,h.set f (1+1),by omega,by go_num,O (by rw [List.length_set];exact G.o),O (by rw [← Dn];exact E.o.jD f _),O (X.o.far (by simp) _),O (by have h9:=y.o;rw [J.o] at h9;exact h9),O (by rw [qK,if_neg (by omega)];exact C.o),O (u.o.set (by omega)),O (dS L.o (by simp))⟩,by simp [intOf];omega⟩
     case neg =>
      have LJ:=O (show h=pX (aj xs) k D by have h9:=y.o;rw [List.drop_of_length_le (by omega)] at h9;exact h9);have j1:decide ((a:Int) < (x.1.kids.length:Int))=false:=aiH (by omega);have j2:decide (a < x.1.kids.length)=false:=aiH q;go_wp2_with fail
      refine⟨⟨k,h,by omega,by go_num,G,E,X,O (by rw [LJ.o];exact HD.o),u,L⟩,by (first|(simp [intOf];done)|(simp [intOf];omega))⟩
   ·have n0:((v:Int) == 0)=false:=by simp;omega
    have hz2:=O hz;go_wp2_with fail;have H:=O (show aZ wr (w.heap.size+1) 3 (iA (mD k D)) from (by unfold mD;rw [if_neg (by rw [← W.o];exact hz2.o)];exact T.o));have K:=O (show aZ wr w.heap.size 25 #[.slice (some ⟨b,o,none⟩) n c,.slice B m d] from HT.o);have rA:=O (show Below w.heap.size w wr from HL.o);have Hv:=O (show (mD k D).getD k 0=v from (by unfold mD;rw [if_neg (by rw [← W.o];exact hz2.o)];exact W.o.symm));have t:=O (HA.o.mD (i:=k) (by omega));have hv1:v≤n - (k+1)+1:=by have:=t.o k;rw [Hv.o] at this;exact this
    have I:=O (wQ k D);go_loopw [34] (fun j S=>∃ (a:Nat) (h:List Nat),a≤x.1.kids.length∧j=.int .i64 a∧Hid (h.length=n)∧Hid (aZ S (w.heap.size+1) 3 (iA h))∧Hid (aZ S w.heap.size 25 #[.slice (some ⟨b,o,none⟩) n c,.slice B m d])∧Hid (sU v (x.1.kids.drop a) h=pX (aj xs) k D)∧Hid (h.getD k 0=v)∧Hid (kK (n - k+1) h)∧Hid (Below w.heap.size w S)) (fun j _=>x.1.kids.length - (intOf j).toNat)
    case atStart=>exact⟨0,mD k D,aix _,rfl,O (I.o.trans Gm.o),H,K,O (by rw [List.drop_zero,pX,Hv.o,DJ HX.o]),Hv,O (t.o.mono (by omega)),rA⟩
    case round =>
     obtain⟨a,h,hj,rfl,G,E,X,y,C,u,L⟩:=hrel;by_cases q:a < x.1.kids.length
     case pos =>
      obtain⟨bk,ok,rfl,N,F⟩:=BG.o (by omega);obtain⟨kq,r⟩:∃ kq,x.1.kids[a]? = some kq:=⟨_,aip q⟩;have R:=HW.o k x.1 (by unfold aj;rw [List.getElem?_map,HX.o];rfl) kq (aiy r);obtain⟨f,rfl⟩:∃ f:Nat,kq=(f:Int):=⟨kq.toNat,by omega⟩;have cj:=(L.o.cell (p:=⟨bk,ok+a,none⟩) N).trans (F a f r)
      have J:=O (show x.1.kids.drop a=(f:Int) :: x.1.kids.drop (a+1) by
       rw [aiJ q,(aiq.1 r).2])
      have ck:wr.cell? ⟨w.heap.size+1,k,none⟩=some (.int .i64 ((v:Nat):Int)):=by
       rw [E.o.cell k,qC h k (by rw [G.o];omega),C.o]
      have fn:=E.o.frozen f
      have cn:wr.cell? ⟨w.heap.size+1,f,none⟩=some (.int .i64 ((h.getD f 0:Nat):Int)):=by
       rw [E.o.cell f,qC h f (by rw [G.o];omega)]
      have k1:(0:Int)≤(f:Int):=by omega
      have k2:(f:Int) < (n:Int):=by omega
      have hkk:f < k:=by omega
      clear F r R;have j1:decide ((a:Int) < (x.1.kids.length:Int))=true:=aiG (by omega);have j2:decide (a < x.1.kids.length)=true:=aiG q;go_wp2_with fail
      refine⟨⟨a+1,h.set f (v+1),by omega,by go_num,O (by rw [List.length_set];exact G.o),O (by rw [← Dn];exact E.o.jD f _),O (X.o.far (by simp) _),O (by have h9:=y.o;rw [J.o] at h9;exact h9),O (by rw [qK,if_neg (by omega)];exact C.o),O (u.o.set (by omega)),O (dS L.o (by simp))⟩,by simp [intOf];omega⟩
     case neg =>
      have LJ:=O (show h=pX (aj xs) k D by have h9:=y.o;rw [List.drop_of_length_le (by omega)] at h9;exact h9);have j1:decide ((a:Int) < (x.1.kids.length:Int))=false:=aiH (by omega);have j2:decide (a < x.1.kids.length)=false:=aiH q;go_wp2_with fail
      refine⟨⟨k,h,by omega,by go_num,G,E,X,O (by rw [LJ.o];exact HD.o),u,L⟩,by (first|(simp [intOf];done)|(simp [intOf];omega))⟩
end
section
open Go.RowKit Mist
attribute [local go_sem] au aN aV aM aG
theorem zK (w:World)(a b:Obj):((w.alloc a).alloc b).heap[w.heap.size+1]? = some b:=by
 have h:=heap_alloc_new (w.alloc a) b;rw [World.size_alloc] at h;exact h
def aX (l:List Tok)(en:Int)(k:Nat):Ending:=.panicked [{ v:=.iface 136 (.agg #[.int .i64 (pl l en k)]),recovered:=false }]
structure PF (l:List Tok):Prop where
 len:l.length≤1000
 kind:∀ t ∈ l,Mist.kind t.text=t.kind
 text:∀ t ∈ l,t.text.length≤2000
theorem PF.tx {l:List Tok}(h:PF l)(k:Nat):(tx l k).length≤2000:=by
 rcases Nat.lt_or_ge k l.length with h1 | h1
 ·exact h.text _ (Iw l k h1)
 ·unfold Mist.tx;rw [rU l k h1];simp
section
variable (g:Nat) (tv:Value) (l:List Tok) (en:Int) (iv:Value) (hF:PF l)
include hF
theorem eu (x:Bs)(u:Mist.kind x=3∨Mist.kind x=4)(w:World)(k:Nat)(xs:List NV)(nv:Value)(h:PS g tv l en iv w k xs nv)(m:k≤l.length)(j:tx l k=x) :
  Calls Tryz.prog 148 #[.pointer (some ⟨g,0,none⟩),.string (aU x)] w fun e w'=>e=.returned (g_ l en k)∧PS g tv l en iv w' (k+1) xs nv∧Mv g nv.ownBlock w nv.ownBlock w':=by
 have H:=O h;clear h;have r:=O (show decide (tx l k=x)=true by simp [j]);clear j;have c:=O (H.o.new (aiv _));have i:=aZ.new w 131 #[.int .u8 0,.string ⟨#[]⟩,.int .i64 0];go_in
 go_wp2_with fail;refine (tN x u g tv l en iv _ k xs nv ((H.o.alloc _).alloc _) m hF.len hF.kind (w.heap.size+1) _ 9 (0,0) (zK _ _ _) true r.o).mono ?_;rintro e w1⟨rfl,b⟩;have f:=(i.alloc (.cells #[.string (aU x)] 9)).below b (by simp;omega);have t:=O ((((Mv.refl (g:=g) (r0:=nv.ownBlock) (w:=w)).nT (o:=.cells #[.int .u8 0,.string ⟨#[]⟩,.int .i64 0] 131)).nT (o:=.cells #[.string (aU x)] 9)).zo b);have n:=O (((H.o.alloc (.cells #[.int .u8 0,.string ⟨#[]⟩,.int .i64 0] 131)).alloc (.cells #[.string (aU x)] 9)).below b);clear b i;go_wp2_with fail;refine (qV g tv l en iv _ k xs nv n.o m hF.len).mono ?_;rintro e B⟨rfl,h2,d⟩;have a:=d.blk f (Nat.ne_of_gt c.o.lt) (Ne.symm c.o.row);have y:=O (t.o.trans d);have q:=O h2;clear d h2 f;have A:=a.lt;have r0:=a.cell 0;have r1:=a.cell 1;have r2:=a.cell 2;have C:=a.frozen 0;have D:=a.frozen 1;have E:=a.frozen 2;clear a;go_wp2_with fail;refine bodyPost_ret (v:=g_ l en k) (by simp [results,go_sem,g_,r0,r1,r2]) rfl ?_;exact⟨rfl,by (repeat (first | exact q.o | refine PS.far ?_ c.o _ _)),by (repeat (first | exact y.o | refine Mv.WM ?_ (aiv _)))⟩
theorem gy (x:Bs)(j:Mist.kind x=3∨Mist.kind x=4)(w:World)(k:Nat)(xs:List NV)(nv:Value)(h:PS g tv l en iv w k xs nv)(d:k≤l.length)(c:¬ tx l k=x) :
  Calls Tryz.prog 148 #[.pointer (some ⟨g,0,none⟩),.string (aU x)] w fun e w'=>e=aX l en k∧Below w.heap.size w w':=by
 have H:=O h;clear h;have i:=O (show decide (tx l k=x)=false by simp [c]);clear c;go_in
 go_wp2_with fail;refine (tN x j g tv l en iv _ k xs nv ((H.o.alloc _).alloc _) d hF.len hF.kind (w.heap.size+1) _ 9 (0,0) (zK _ _ _) false i.o).mono ?_;rintro e w1⟨rfl,a⟩;have f:=O (((H.o.alloc (.cells #[.int .u8 0,.string ⟨#[]⟩,.int .i64 0] 131)).alloc (.cells #[.string (aU x)] 9)).below a);have b:=O ((aF (o:=.cells #[.string (aU x)] 9) (aF (o:=.cells #[.int .u8 0,.string ⟨#[]⟩,.int .i64 0] 131) (Below.refl w.heap.size w) (aiv _)) (by simp)).trans (a.mono (by simp;omega)));clear a;go_wp2_with fail;refine (qI g tv l en iv _ k xs nv f.o d hF.len).mono ?_;rintro e m⟨rfl,a⟩;go_wp2_with fail;exact⟨rfl,rfl,b.o.trans (a.mono b.o.size)⟩
theorem jc (x:Bs)(n:Mist.kind x=3∨Mist.kind x=4)(w:World)(k:Nat)(xs:List NV)(nv:Value)(h:PS g tv l en iv w k xs nv)(c:k≤l.length)(b:tx l k=x) :
  Calls Tryz.prog 200 #[.pointer (some ⟨g,0,none⟩),.string (aU x)] w fun e w'=>e=.returned (.bool true)∧PS g tv l en iv w' (k+1) xs nv∧Mv g nv.ownBlock w nv.ownBlock w':=by
 have H:=O h;clear h;have j:=O (show decide (tx l k=x)=true by simp [b]);clear b;go_in
 go_wp2_with fail;refine (tN x n g tv l en iv _ k xs nv (H.o.alloc _) c hF.len hF.kind w.heap.size _ 9 (0,0) (heap_alloc_new _ _) true j.o).mono ?_;rintro e w1⟨rfl,a⟩;have m:=O (((Mv.refl (g:=g) (r0:=nv.ownBlock) (w:=w)).nT (o:=.cells #[.string (aU x)] 9)).zo a);have f:=O ((H.o.alloc (.cells #[.string (aU x)] 9)).below a);clear a;go_wp2_with fail;refine (qV g tv l en iv _ k xs nv f.o c hF.len).mono ?_;rintro e r⟨rfl,h2,d⟩;have q:=O (m.o.trans d);have i:=O h2;clear d h2;go_wp2_with fail;go_ret;exact⟨rfl,i.o,q.o⟩
theorem kP (x:Bs)(i:Mist.kind x=3∨Mist.kind x=4)(w:World)(k:Nat)(xs:List NV)(nv:Value)(h:PS g tv l en iv w k xs nv)(f:k≤l.length)(b:¬ tx l k=x) :
  Calls Tryz.prog 200 #[.pointer (some ⟨g,0,none⟩),.string (aU x)] w fun e w'=>e=.returned (.bool false)∧Below w.heap.size w w':=by
 have H:=O h;clear h;have d:=O (show decide (tx l k=x)=false by simp [b]);clear b;go_in
 go_wp2_with fail;refine (tN x i g tv l en iv _ k xs nv (H.o.alloc _) f hF.len hF.kind w.heap.size _ 9 (0,0) (heap_alloc_new _ _) false d.o).mono ?_;rintro e w1⟨rfl,a⟩;have c:=O ((aF (o:=.cells #[.string (aU x)] 9) (Below.refl w.heap.size w) (aiv _)).trans (a.mono (by simp)));clear a;go_wp2_with fail;go_ret;exact⟨rfl,c.o⟩
theorem Ko (c:Nat)(w:World)(k:Nat)(xs:List NV)(nv:Value)(h:PS g tv l en iv w k xs nv)(n:k≤l.length)(m:(tg l k).kind=c) :
  Calls Tryz.prog 213 #[.pointer (some ⟨g,0,none⟩),.int .u8 c] w fun e w'=>e=.returned (g_ l en k)∧PS g tv l en iv w' (k+1) xs nv∧Mv g nv.ownBlock w nv.ownBlock w':=by
 have H:=O h;clear h;have u:(((tg l k).kind:Int) != (c:Int))=false:=by rw [m];simp
 clear m;have d:=O (H.o.new (aiv _));have j:=aZ.new w 131 #[.int .u8 0,.string ⟨#[]⟩,.int .i64 0];have f0:=vT;go_in
 go_wp2_with fail;refine (gY g tv l en iv _ k xs nv (H.o.alloc _) n hF.len).mono ?_;rintro e w1⟨rfl,b⟩;have i:=j.below b (by simp);have t:=O (((Mv.refl (g:=g) (r0:=nv.ownBlock) (w:=w)).nT (o:=.cells #[.int .u8 0,.string ⟨#[]⟩,.int .i64 0] 131)).zo b);have q:=O ((H.o.alloc (.cells #[.int .u8 0,.string ⟨#[]⟩,.int .i64 0] 131)).below b);clear b j;go_wp2_with fail;refine (qV g tv l en iv _ k xs nv q.o n hF.len).mono ?_;rintro e A⟨rfl,h2,f⟩;have a:=f.blk i (Nat.ne_of_gt d.o.lt) (Ne.symm d.o.row);have x:=O (t.o.trans f);have r:=O h2;clear f h2 i;have y:=a.lt;have r0:=a.cell 0;have r1:=a.cell 1;have r2:=a.cell 2;have B:=a.frozen 0;have C:=a.frozen 1;have D:=a.frozen 2;clear a;go_wp2_with fail;refine bodyPost_ret (v:=g_ l en k) (by simp [results,go_sem,g_,r0,r1,r2]) rfl ?_;exact⟨rfl,by (repeat (first | exact r.o | refine PS.far ?_ d.o _ _)),by (repeat (first | exact x.o | refine Mv.WM ?_ (aiv _)))⟩
theorem Qj (c:Nat)(w:World)(k:Nat)(xs:List NV)(nv:Value)(h:PS g tv l en iv w k xs nv)(d:k≤l.length)(i:¬ (tg l k).kind=c) :
  Calls Tryz.prog 213 #[.pointer (some ⟨g,0,none⟩),.int .u8 c] w fun e w'=>e=aX l en k∧Below w.heap.size w w':=by
 have H:=O h;clear h;have j:(((tg l k).kind:Int) != (c:Int))=true:=by simp;omega
 clear i;have f0:=vT;go_in
 go_wp2_with fail;refine (gY g tv l en iv _ k xs nv (H.o.alloc _) d hF.len).mono ?_;rintro e w1⟨rfl,a⟩;have b:=O ((aF (o:=.cells #[.int .u8 0,.string ⟨#[]⟩,.int .i64 0] 131) (Below.refl w.heap.size w) (aiv _)).trans (a.mono (by simp)));have f:=O ((H.o.alloc (.cells #[.int .u8 0,.string ⟨#[]⟩,.int .i64 0] 131)).below a);clear a;go_wp2_with fail;refine (qI g tv l en iv _ k xs nv f.o d hF.len).mono ?_;rintro e m⟨rfl,a⟩;go_wp2_with fail;exact⟨rfl,rfl,b.o.trans (a.mono b.o.size)⟩
theorem jy (w:World)(k:Nat)(xs:List NV)(nv:Value)(h:PS g tv l en iv w k xs nv)(m:k≤l.length)(f:(tg l k).kind=1) :
  Calls Tryz.prog 194 #[.pointer (some ⟨g,0,none⟩)] w fun e w'=>e=.returned (g_ l en k)∧PS g tv l en iv w' (k+1) xs nv∧Mv g nv.ownBlock w nv.ownBlock w':=by
 have H:=O h;clear h;have j:=O f;clear f;have b:=O (H.o.new (aiv _));have d:=aZ.new w 131 #[.int .u8 0,.string ⟨#[]⟩,.int .i64 0];go_in
 go_wp2_with fail;refine (Ko g tv l en iv hF 1 _ k xs nv (H.o.alloc _) m j.o).mono ?_;rintro e r⟨rfl,h2,c⟩;have a:=c.blk d (Nat.ne_of_gt b.o.lt) (Ne.symm b.o.row);have n:=O (((Mv.refl (g:=g) (r0:=nv.ownBlock) (w:=w)).nT (o:=.cells #[.int .u8 0,.string ⟨#[]⟩,.int .i64 0] 131)).trans c);have i:=O h2;clear c h2 d;have q:=a.lt;have r0:=a.cell 0;have r1:=a.cell 1;have r2:=a.cell 2;have t:=a.frozen 0;have u:=a.frozen 1;have x:=a.frozen 2;clear a;unfold g_;go_wp2_with fail;refine bodyPost_ret (v:=g_ l en k) (by simp [results,go_sem,g_,r0,r1,r2]) rfl ?_;exact⟨rfl,by (repeat (first | exact i.o | refine PS.far ?_ b.o _ _)),by (repeat (first | exact n.o | refine Mv.WM ?_ (aiv _)))⟩
theorem kX (w:World)(k:Nat)(xs:List NV)(nv:Value)(h:PS g tv l en iv w k xs nv)(d:k≤l.length)(a:¬ (tg l k).kind=1) :
  Calls Tryz.prog 194 #[.pointer (some ⟨g,0,none⟩)] w fun e w'=>e=aX l en k∧Below w.heap.size w w':=by
 have H:=O h;clear h;have b:=O a;clear a;go_in
 go_wp2_with fail;refine (Qj g tv l en iv hF 1 _ k xs nv (H.o.alloc _) d b.o).mono ?_;rintro e f⟨rfl,c⟩;unfold aX;go_wp2_with fail;exact⟨rfl,rfl,(aF (o:=.cells #[.int .u8 0,.string ⟨#[]⟩,.int .i64 0] 131) (Below.refl w.heap.size w) (aiv _)).trans (c.mono (by simp))⟩
end
section
variable (g:Nat) (tv:Value) (l:List Tok) (en:Int) (iv:Value)
theorem ZY (K:Nat)(oa ob:Value)(p:Int)(x:Bs)(N:Int)(E:Value)(kids:List Int)(w:World)(k:Nat)(xs:List NV)(nv:Value)(h:PS g tv l en iv w k xs nv)(q:gX w E kids)(T:xs.length≤1000000) :
  Calls Tryz.prog 196 #[.pointer (some ⟨g,0,none⟩),.int .u8 K,.agg #[oa,ob,.int .i64 p],.string (aU x),.int .i64 N,E] w fun e w'=>e=.returned (.int .i64 (xs.length:Nat))∧∃ l7,PS g tv l en iv w' k (xs ++ [(⟨K,x,N,kids,p⟩,E)]) l7∧Mv g nv.ownBlock w l7.ownBlock w':=by
 obtain⟨A,c,rfl⟩:=dh q;obtain⟨R,r,y,B,C⟩:=info_parts FU;have H:=O h;clear h;have I:=O q;clear q;have P:=H.o.lt;have c3:=H.o.blk.cell 3;have f3:=H.o.blk.frozen 3;obtain⟨f,d⟩:∃ f,f=kids.length:=⟨_,rfl⟩;rw [← d];have J:=O d;clear d;have Q:¬ w.heap.size=g:=by omega
 go_in
 go_wp2_with fail
 go_region_law ((refine step_append_lies _ (by rfl) _ _ _ (by rfl) g 39 R _ 5 64 Tryz.underlying22 r y B C rfl (by omega) _ xs.length (jH xs) (by rfl) (((H.o.own.alloc _).alloc _).drew)
                  ⟨w.heap.size+1,0,none⟩ 1 1 (gu (⟨K,x,N,kids,p⟩,.slice A f c)) (by rfl) (by rfl) (World.news_of_block (cs:=#[.int .u8 K,.string (aU x),.int .i64 N,.slice A f c,.int .i64 p]) (t:=39) (fr:=(0,0)) (zK w _ _)) (by intro u G;simp [gu] at G;rcases G with rfl | rfl | rfl | rfl | rfl <;> rfl)
                  (by omega) (by simp only [maxLen];omega) (by omega) (by simp;omega) (w.heap.size+2) (by simp) ?_;intro S cap w1 b a j F;have D:=((H.o.alloc (.cells #[oa,ob,.int .i64 p] 131)).alloc (.cells #[.int .u8 K,.string (aU x),.int .i64 N,.slice A f c,.int .i64 p] 39)).drew.blk.grown a (fun e=>bJ H.o.own H.o.blk (by decide) e.symm);have L:=D.cell 3;have M:=D.frozen 3;clear D))
 all_goals
  have i:=O a;clear a;have n:=O b;clear b;have m:=O j;clear j;go_wp2;go_ret
  refine⟨by (first | rfl|(congr 2;omega)),_,PS.add ((H.o.alloc (.cells #[oa,ob,.int .i64 p] 131)).alloc (.cells #[.int .u8 K,.string (aU x),.int .i64 N,.slice A f c,.int .i64 p] 39)).drew i.o n.o (J.o ▸ own_below I.o (Below.drew (aF (aF (Below.refl _ _) (aiv _)) (by simp)))),?_⟩
  refine Mv.acN ?_;refine Mv.trans (r1:=nv.ownBlock) (Mv.nT (Mv.nT Mv.refl)).acH (Mv.grown i.o ?_);rcases m.o with e | e
  ·left;rw [e];rfl
  ·right;rw [e];simp [Value.ownBlock]
theorem oU (hF:PF l)(w:World)(k:Nat)(xs:List NV)(nv:Value)(h:PS g tv l en iv w k xs nv)(B:k≤l.length)(f:(tg l k).kind=2) :
  Calls Tryz.prog 201 #[.pointer (some ⟨g,0,none⟩)] w fun e w'=>e=.returned (.tuple #[g_ l en k,.int .i64 (numOf (tx l k):Nat)])∧PS g tv l en iv w' (k+1) xs nv∧Mv g nv.ownBlock w nv.ownBlock w':=by
 have H:=O h;clear h;have A:=O (yg (tx l k) (by unfold tx;rw [hF.kind _ (Iw l k (lq f (by simp))),f]));have y:=O f;clear f;have i:=O (H.o.new (aiv _));have r:=aZ.new w 131 #[.int .u8 0,.string ⟨#[]⟩,.int .i64 0];go_in
 go_wp2_with fail;refine (Ko g tv l en iv hF 2 _ k xs nv (H.o.alloc _) B y.o).mono ?_;rintro e t⟨rfl,h2,m⟩;have n:=m.blk r (Nat.ne_of_gt i.o.lt) (Ne.symm i.o.row);have E:=O (((Mv.refl (g:=g) (r0:=nv.ownBlock) (w:=w)).nT (o:=.cells #[.int .u8 0,.string ⟨#[]⟩,.int .i64 0] 131)).trans m);have q:=O h2;have j:=aZ.new t 131 #[.int .u8 (tg l k).kind,.string (aU (tx l k)),.int .i64 (pl l en k)];have c:=n.alloc (.cells #[.int .u8 (tg l k).kind,.string (aU (tx l k)),.int .i64 (pl l en k)] 131);have C:=n.lt;clear m h2 r n;unfold g_;go_wp2_with fail;refine (Ot (tx l k) _ ((q.o.alloc (.cells #[.int .u8 (tg l k).kind,.string (aU (tx l k)),.int .i64 (pl l en k)] 131)).afH) (by have:=hF.tx k;omega)).mono ?_;rintro e K⟨rfl,b⟩;rw [A.o];have a:=c.below b c.lt;have d:=j.below b j.lt;have x:=O ((q.o.alloc (.cells #[.int .u8 (tg l k).kind,.string (aU (tx l k)),.int .i64 (pl l en k)] 131)).below b);have u:=O ((E.o.nT (o:=.cells #[.int .u8 (tg l k).kind,.string (aU (tx l k)),.int .i64 (pl l en k)] 131)).zo b);have F:=c.lt;have D:¬ t.heap.size=w.heap.size:=by omega
 clear b c j;have r0:=a.cell 0;have r1:=a.cell 1;have r2:=a.cell 2;have L:=a.frozen 0;have M:=a.frozen 1;have N:=a.frozen 2;have G:=d.cell 0;have I:=d.cell 1;have J:=d.cell 2;clear a d;go_wp2_with fail;refine bodyPost_ret (v:=.tuple #[g_ l en k,.int .i64 (numOf (tx l k):Nat)]) (by simp [results,go_sem,g_,r0,r1,r2]) rfl ?_;exact⟨rfl,by (repeat (first | exact x.o | refine PS.far ?_ i.o _ _)),by (repeat (first | exact u.o | refine Mv.WM ?_ (aiv _)))⟩
theorem uy (hF:PF l)(w:World)(k:Nat)(xs:List NV)(nv:Value)(h:PS g tv l en iv w k xs nv)(d:k≤l.length)(a:¬ (tg l k).kind=2) :
  Calls Tryz.prog 201 #[.pointer (some ⟨g,0,none⟩)] w fun e w'=>e=aX l en k∧Below w.heap.size w w':=by
 have H:=O h;clear h;have b:=O a;clear a;go_in
 go_wp2_with fail;refine (Qj g tv l en iv hF 2 _ k xs nv (H.o.alloc _) d b.o).mono ?_;rintro e f⟨rfl,c⟩;unfold aX;go_wp2_with fail;exact⟨rfl,rfl,(aF (o:=.cells #[.int .u8 0,.string ⟨#[]⟩,.int .i64 0] 131) (Below.refl w.heap.size w) (aiv _)).trans (c.mono (by simp))⟩
end
def iJ:List (Bs × Value)→Nat→List MapEntry
 | [],_=>[]
 | (k,v) :: r,i=>⟨.string (aU k),v,i⟩ :: iJ r (i+1)
def oW (x:Bs):List (Bs × Value)→Option Value
 | []=>none
 | (k,v) :: r=>if x=k then some v else oW x r
theorem aaT (x:Bs)(y:Bs):(aU x == aU y)=decide (x=y):=by
 rw [aiu];constructor
 ·intro h
  have:=aM x
  rw [beq_toListBytes] at h
  rw [aM,aM] at h
  simpa using h
 ·intro h;have h:x=y:=by simpa using h
  rw [h,beq_toListBytes];simp
theorem zy (x:Bs):∀ (l:List (Bs × Value)) (i j:Nat),∃ n,Instr.findNow .string (.string (aU x)) (iJ l j) i=some ((oW x l).map fun v=>(n,v))
 | [],i,j=>⟨0,rfl⟩
 | (k,v) :: r,i,j=>by
  simp only [iJ,oW,Instr.findNow,Instr.sameNow,aaT];by_cases h:x=k
  ·exact⟨i,by simp [h]⟩
  ·obtain⟨n,a⟩:=zy x r (i+1) (j+1);exact⟨n,by simp [h,a]⟩
theorem yE (b:Bool)(s:ByteArray)(w:World):(Instr.checkKey b 10000 9 (.string s)).run Tryz.prog w=.ok () w :=
 MapKept.run_checkKey Tryz.underlying9 (by trivial) b 9999
theorem DF (T E:TypeId)(z:Value)(a:Tryz.prog.underlying T=some (.map 9 E))(w:World)(h:(zeroValue E).run Tryz.prog w=.ok z w)(l:List (Bs × Value))(m c:Nat)(e:w.heap[m]? = some (.map (iJ l 0).toArray c))(x:Bs)(ok:Bool) :
  (Instr.lookup T (.map (some m)) (.string (aU x)) ok).run Tryz.prog w=.ok (if ok then .tuple #[(oW x l).getD z,.bool (oW x l).isSome] else (oW x l).getD z) w:=by
 have d:(getObj m).run Tryz.prog w=.ok (.map (iJ l 0).toArray c) w:=MapKept.run_getObj_map e;obtain⟨n,f⟩:=zy x l 0 0
 have b:(Instr.findKey 9 (.string (aU x)) (iJ l 0)).run Tryz.prog w=.ok ((oW x l).map fun v=>(n,v)) w:=by
  simp only [Instr.findKey,Sem.run_bind,run_underlying Tryz.underlying9,Result.andThen_ok,f];rfl
 unfold Instr.lookup;simp only [Sem.run_bind,run_underlying a,Result.andThen_ok,d,yE,b,Sem.run_pure]
 cases oW x l with
 | none =>
  simp only [Option.map_none,Sem.run_bind,h,Result.andThen_ok,Sem.run_pure]
  cases ok <;> rfl
 | some v =>
  simp only [Option.map_some,Sem.run_pure,Result.andThen_ok]
  cases ok <;> rfl
theorem heap_put (w:World)(o a:Obj):(w.alloc o).heap.setIfInBounds w.heap.size a=(w.alloc a).heap:=by
 show (w.heap.push o).setIfInBounds w.heap.size a=w.heap.push a
 ext i h1 h2
 ·simp
 ·rw [Array.getElem_setIfInBounds]
  ·rw [Array.getElem_push,Array.getElem_push];split
   ·rename_i h;subst h;simp
   ·split <;> first | rfl|(simp at h2;omega)
  ·simpa using h1
theorem K9:∀ (l:List (Bs × Value)) (k:Bs) (v:Value) (i:Nat),iJ (l ++ [(k,v)]) i=iJ l i ++ [⟨.string (aU k),v,i+l.length⟩]
 | [],_,_,_=>rfl
 | (a,b) :: r,k,v,i=>by
  simp only [List.cons_append,iJ,K9 r k v (i+1),List.length_cons];rw [show i+1+r.length=i+(r.length+1) by omega]
theorem dX (T E:TypeId)(c:Tryz.prog.underlying T=some (.map 9 E))(w:World)(l:List (Bs × Value))(k:Bs)(v:Value)(h:oW k l=none) :
  (Instr.mapUpdate T (.map (some w.heap.size)) (.string (aU k)) v).run Tryz.prog (w.alloc (.map (iJ l 0).toArray l.length))=.ok () (w.alloc (.map (iJ (l ++ [(k,v)]) 0).toArray (l.length+1))):=by
 have b:(w.alloc (.map (iJ l 0).toArray l.length)).heap[w.heap.size]? = some (.map (iJ l 0).toArray l.length):=heap_alloc_new w _;have f:(getObj w.heap.size).run Tryz.prog (w.alloc (.map (iJ l 0).toArray l.length))=.ok (.map (iJ l 0).toArray l.length) (w.alloc (.map (iJ l 0).toArray l.length)):=MapKept.run_getObj_map b;obtain⟨n,a⟩:=zy k l 0 0;rw [h] at a
 have d:(Instr.findKey 9 (.string (aU k)) (iJ l 0)).run Tryz.prog (w.alloc (.map (iJ l 0).toArray l.length))=.ok none (w.alloc (.map (iJ l 0).toArray l.length)):=by
  simp only [Instr.findKey,Sem.run_bind,run_underlying Tryz.underlying9,Result.andThen_ok,a];rfl
 have i:∀ o,(setObj w.heap.size o).run Tryz.prog (w.alloc (.map (iJ l 0).toArray l.length))=.ok () (w.alloc o):=by
  intro o;rw [MapKept.run_setObj_map o b,heap_put];rfl
 have e:(iJ l 0).toArray.push ⟨.string (aU k),v,l.length⟩=(iJ (l ++ [(k,v)]) 0).toArray:=by
  rw [K9];simp
 unfold Instr.mapUpdate;simp only [Sem.run_bind,run_underlying c,Result.andThen_ok,f,yE,d,i,e]
end
