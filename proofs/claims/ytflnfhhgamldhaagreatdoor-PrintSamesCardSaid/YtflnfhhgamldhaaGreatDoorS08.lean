/-
  A part of the proof.
-/
import Derived.Test.YtflnfhhgamldhaaGreatDoorAtoi
import Derived.Test.YtflnfhhgamldhaaGreatDoorS07
set_option linter.all false
set_option maxRecDepth 100000
set_option maxHeartbeats 4000000
namespace Go.Proofs.YtflnfhhgamldhaaGreatDoor
section
open Go.RowKit Mist
attribute [local go_sem] ah aM aV au ak
def I_ (l:Bs)(w:World)(e:Ending)(w':World):Prop:=e=.returned (.tuple #[.int .i64 (numberOf l).1,.int .i64 (numberOf l).2])∧Below w.heap.size w w'
theorem oC {l:Bs}{w w':World}{x y:Int}{p q:Nat}(h:numberOf l=(p,q))(b:x=p)(hy:y=q)(a:Below w.heap.size w w'):I_ l w (.returned (.tuple #[.int .i64 x,.int .i64 y])) w':=by
 subst b;subst hy;exact⟨by rw [h],a⟩
theorem YA (l:Bs)(w:World)(h:kind l=2) :
  Calls Tryz.prog 198 #[.string (aH l)] w fun e w'=>e=.returned (.tuple #[.int .i64 (numOf l),.nilIface])∧Below w.heap.size w w':=by
 obtain⟨h1,h2,h3⟩:=uT l h;refine (Tryz.strconv_Atoi_ok (aH l) (by rw [aM];omega) (numOf l) (by rw [show (aH l).data.toList=l by simp [aH]];exact KU l h3 h1 h2) w).mono ?_;rintro e w' ⟨rfl,a⟩
 refine⟨rfl,?_⟩
 rcases a with rfl | ⟨t,rfl⟩
 ·exact Below.refl _ _
 ·exact Lib.bytesWorld_below w _ t
theorem yI (s:Bs)(h:kind s=0):iK s=4:=by unfold iK;rw [if_pos h]
theorem Ea (s:Bs)(h:¬ kind s=0):iK s=0:=by unfold iK;rw [if_neg h]
theorem Qm (l:Bs)(w:World)(h:Env w)(f:l.length≤100000000) :
  Calls Tryz.prog 184 #[.string (aH l)] w (I_ l w):=by
 have c:=O h;clear h;by_cases h0:kind l=0
 ·have h1:((iK l:Int) != 0)=true:=by rw [yI l h0];rfl
  have b:=O (oW l (by omega));clear h0;go_in
  go_wp2_with (go_at_call 168;refine (yJ l _ c.o f).mono ?_;rintro e w1⟨rfl,a⟩)
  go_ret2
  exact oC b.o rfl rfl a
 have h1:((iK l:Int) != 0)=false:=by rw [Ea l h0];rfl
 by_cases h2:kind l=2
 ·have h3:((kind l:Int) != 2)=false:=by simp;omega
  have b:=O (nM l h2);have i:=O h2;clear h0 h2;go_in
  go_wp2_with (first
   | (go_at_call 168;refine (yJ l _ c.o f).mono ?_;rintro e w1⟨rfl,a⟩)
   | (go_at_call 198;refine (YA l _ i.o).mono ?_;rintro e j⟨rfl,d⟩))
  go_ret2
  exact oC b.o rfl rfl (a.trans (d.mono a.size))
 ·have h3:((kind l:Int) != 2)=true:=by simp;omega
  have b:=O (oW l h2);clear h0 h2;go_in
  go_wp2_with (go_at_call 168;refine (yJ l _ c.o f).mono ?_;rintro e w1⟨rfl,a⟩)
  go_ret2
  exact oC b.o rfl rfl a
theorem Nj (l:Bs)(w:World)(j:l.length≤100000000) :
  Calls Tryz.prog 147 #[.string (aH l)] w (I_ l w):=by
 by_cases h0:kind l=0
 ·have h1:((iK l:Int) != 0)=true:=by rw [yI l h0];rfl
  have d:=O (oW l (by omega));clear h0;go_in
  go_wp2_with (go_at_call 180;refine (AP l _ j).mono ?_;rintro e w1⟨rfl,a⟩)
  go_ret2
  exact oC d.o rfl rfl a
 have h1:((iK l:Int) != 0)=false:=by rw [Ea l h0];rfl
 by_cases h2:kind l=2
 case neg =>
  have h3:((kind l:Int) != 2)=true:=by simp;omega
  have d:=O (oW l h2);clear h0 h2;go_in
  go_wp2_with (go_at_call 180;refine (AP l _ j).mono ?_;rintro e w1⟨rfl,a⟩)
  go_ret2
  exact oC d.o rfl rfl a
 have h3:((kind l:Int) != 2)=false:=by simp;omega
 have d:=O (nM l h2);obtain⟨h4,h5,h6⟩:=uT l h2;have m:=O h6;clear h0 h2 h6;go_in
 go_wp2_with (go_at_call 180;refine (AP l _ j).mono ?_;rintro e w1⟨rfl,a⟩)
 have q:=O a;clear a;go_loopw [6,7] (fun s i wr=>∃ n:Nat,n≤l.length∧i=.int .i64 n∧s=.int .i64 (numOf (l.take n))∧wr=w1) (fun _ i _=>l.length - (intOf i).toNat)
 case atStart=>exact⟨0,ak2 _,rfl,by simp [numOf,digits],rfl⟩
 case round =>
  obtain⟨n,v,rfl,rfl,rfl⟩:=hrel;have h:=yN (l.take n) (fun c r=>m.o c (List.mem_of_mem_take r)) (by simp;omega);by_cases f:n < l.length
  ·have b:=Qk l n f;obtain⟨t,u⟩:=yh _ (m.o _ (aeN l n f));go_wp2;exact⟨⟨n+1,by omega,by go_num,by rw [b];go_num,by first | rfl | trivial⟩,by simp [intOf];omega⟩
  ·have e:l.take n=l:=ak4 (by omega);rw [e] at h ⊢
   go_wp2;go_ret2
   exact oC d.o rfl rfl q.o
structure PS (g:Nat) (tv:Value) (l:List Tok) (en:Int) (iv:Value) (w:World) (k:Nat) (xs:List NV) (nv:Value):Prop where
 blk:bf w g 92 #[tv,.int .i64 en,.int .i64 k,nv,iv]
 own:w.ownsRow g 50 5 nv xs.length (jK xs)
 kids:∀ x ∈ xs,dD w x.2 x.1.kids
 toks:A9 w g tv l
 env : Lib.TabBelow Tryz.prog g w "strings.asciiSpace" IntKind.u8 Lib.asciiSpaceTab
theorem qh {g : Nat} {w w' : World} (h : Lib.TabBelow Tryz.prog g w "strings.asciiSpace" IntKind.u8 Lib.asciiSpaceTab) (c : Below g w w') : Lib.TabBelow Tryz.prog g w' "strings.asciiSpace" IntKind.u8 Lib.asciiSpaceTab := fun b a => h b (c.trans a)
section
variable {g:Nat} {tv:Value} {l:List Tok} {en:Int} {iv:Value} {w w':World} {k:Nat} {xs:List NV} {nv:Value}
theorem PS.lt (h:PS g tv l en iv w k xs nv):g < w.heap.size:=h.blk.lt
theorem PS.Fj (h:PS g tv l en iv w k xs nv):∀ b,nv.ownBlock=some b→g≤b:=fun b a=>(h.own.lt b a).1
theorem PS.iU (h:PS g tv l en iv w k xs nv):∀ b,nv.ownBlock=some b→b < w.heap.size:=fun b a=>(h.own.lt b a).2
theorem PS.low (h:PS g tv l en iv w k xs nv){row:Option Nat}(m:Mv g nv.ownBlock w row w'):Below g w w':=m.below h.lt (ak0 _) h.Fj
theorem PS.kZ (h:PS g tv l en iv w k xs nv){row:Option Nat}(m:Mv g nv.ownBlock w row w'){v:Value}{ks:List Int}(a:dD w v ks):dD w' v ks :=
 m.row a (bD a h.blk (by decide)) (eY a h.own (by decide))
theorem PS.below (h:PS g tv l en iv w k xs nv)(a:Below w.heap.size w w'):PS g tv l en iv w' k xs nv :=
 ⟨h.blk.below a h.lt,own_below h.own a,fun x b=>own_below (h.kids x b) a,h.toks.below (a.mono (ak1 h.lt)),qh h.env (a.mono (ak1 h.lt))⟩
theorem PS.ahH (h:PS g tv l en iv w k xs nv):Env w:=⟨g,ak1 h.lt,h.env⟩
theorem PS.step (h:PS g tv l en iv w k xs nv):PS g tv l en iv (w.setCell ⟨g,2,none⟩ (.int .i64 ((k:Int)+1))) (k+1) xs nv :=
 have m:Mv g nv.ownBlock w nv.ownBlock _:=Mv.g_ h.blk 2 (.int .i64 ((k:Int)+1))
 ⟨(by have:=h.blk.g_ 2 (.int .i64 ((k:Int)+1));simpa using this),ownsRow_setCell_other h.own (bD h.own h.blk (by decide)) _,fun x a=>h.kZ m (h.kids x a),h.toks.below (h.low m),qh h.env (h.low m)⟩
theorem PS.add (h:PS g tv l en iv w k xs nv){w1:World}{gB:Value}{x:NV}(c:w.grownBy w1 nv.ownBlock)(a:w1.ownsRow g 50 5 gB (xs.length+1) (jK xs ++ iL x))(b:dD w x.2 x.1.kids):PS g tv l en iv (w1.setCell ⟨g,3,none⟩ gB) k (xs ++ [x]) gB:=by
 have d:=h.blk.grown c (fun e=>bD h.own h.blk (by decide) e.symm)
 have keep:∀ {v:Value} {cs:List Int},dD w v cs→dD (w1.setCell ⟨g,3,none⟩ gB) v cs:=fun b =>
  ownsRow_setCell_other (b.kept c (eY b h.own (by decide))) (bD (b.kept c (eY b h.own (by decide))) d (by decide)) _
 have f:Below g w (w1.setCell ⟨g,3,none⟩ gB):=eF ((Below.refl _ _).grown c (ak1 h.lt) h.Fj) (ak0 _)
 refine⟨?_,?_,fun y hy=>?_,h.toks.below f,qh h.env f⟩
 ·have:=d.g_ 3 gB;simpa using this
 ·rw [ak5,pY];have e:jK [x]=iL x:=by simp [jK]
  rw [e];exact ownsRow_setCell_other a (bD a d (by decide)) _
 ·rcases List.mem_append.1 hy with hy | hy
  ·exact keep (h.kids y hy)
  ·rw [List.mem_singleton.1 hy];exact keep b
structure Far (g:Nat) (nv:Value) (xs:List NV) (b:Nat):Prop where
 lt:g < b
 row:nv.ownBlock ≠ some b
 kids:∀ x ∈ xs,x.2.ownBlock ≠ some b
theorem PS.new (h:PS g tv l en iv w k xs nv){b:Nat}(a:w.heap.size≤b):Far g nv xs b :=
 ⟨alb h.lt a,fun e=>by have:=h.iU b e;omega,fun x c e=>by have:=(World.ownsRow.lt (h.kids x c) b e).2;omega⟩
theorem PS.far (h:PS g tv l en iv w k xs nv){b:Nat}(f:Far g nv xs b)(i:Nat)(u:Value):PS g tv l en iv (w.setCell ⟨b,i,none⟩ u) k xs nv :=
 ⟨h.blk.far (p:=⟨b,i,none⟩) (Nat.ne_of_lt f.lt) u,ownsRow_setCell_other h.own f.row u,fun x a=>ownsRow_setCell_other (h.kids x a) (f.kids x a) u,h.toks.below (eF (Below.refl _ _) (ak1 f.lt)),qh h.env (eF (Below.refl _ _) (ak1 f.lt))⟩
theorem PS.alloc (h:PS g tv l en iv w k xs nv)(o:Obj):PS g tv l en iv (w.alloc o) k xs nv:=h.below ((Below.refl _ _).alloc (ak0 _) o)
theorem PS.drew (h:PS g tv l en iv w k xs nv):PS g tv l en iv w.drew k xs nv:=h.below (Below.drew (Below.refl _ _))
theorem PS.drewN (h:PS g tv l en iv w k xs nv)(n:Nat):PS g tv l en iv (w.drewN n) k xs nv:=h.below (gJ (Below.refl _ _) n)
end
theorem iQ (g:Nat)(tv:Value)(l:List Tok)(en:Int)(iv:Value)(w:World)(k:Nat)(xs:List NV)(nv:Value)(h:PS g tv l en iv w k xs nv)(u:k≤l.length)(x:l.length≤1000) :
  Calls Tryz.prog 84 #[.pointer (some ⟨g,0,none⟩)] w fun e w'=>e=.returned (.agg #[.int .u8 (tg l k).kind,.string (aH (tx l k)),.int .i64 (pl l en k)])∧Below w.heap.size w w':=by
 have t:=h.blk.cell 0;have c1:=h.blk.cell 1;have c2:=h.blk.cell 2;have j:=h.lt;obtain⟨A,c,rfl,i,d⟩:=h.toks;have n:=O (show mH w (.slice A l.length c) l from ⟨A,c,rfl,i,d.more (ak1 j)⟩);clear d h;by_cases a:k < l.length
 ·obtain⟨b,o,rfl,d⟩:=n.o.aaY (by omega);have D:=d.kind k a;have E:=d.text k a;have F:=d.at_ k a;have q:=d.lt;have r:=O d;clear d;have y:((k:Int) == (l.length:Int))=false:=by simp;omega
  have B:(0:Int)≤(k:Int):=by omega
  have C:(k:Int) < (l.length:Int):=by omega
  have f:=O (show pl l en k=(tg l k).at_ by unfold pl;rw [if_pos a]);go_in
  go_wp2_with fail;go_quiet (fail)
  go_wp2_with fail;go_region
  all_goals
   go_wp2;refine bodyPost_ret (v:=.agg #[.int .u8 (tg l k).kind,.string (aH (tg l k).text),.int .i64 (tg l k).at_]) (by simp [results,Tryz.f84,go_sem]) rfl ?_
   refine⟨by rw [f.o];rfl,?_⟩
   repeat (first | exact Below.refl _ _ | refine eF ?_ (ak0 _) | refine gJ ?_ _ | refine aG ?_ (ak0 _))
 ·obtain rfl:k=l.length:=by omega
  have m:=O (mU l l.length (ak0 _));have f:=O (show pl l en l.length=en by unfold pl;rw [if_neg (by omega)]);go_in
  go_wp2_with fail;go_quiet (fail)
  go_wp2_with fail;refine bodyPost_ret (v:=.agg #[.int .u8 0,.string (aH []),.int .i64 en]) (by simp [results,Tryz.f84,go_sem];rfl) rfl ?_
  refine⟨by rw [f.o];unfold tx;rw [m.o];rfl,?_⟩
  repeat (first | exact Below.refl _ _ | refine eF ?_ (ak0 _) | refine gJ ?_ _ | refine aG ?_ (ak0 _))
theorem wT (a b c:Value)(w:World):(Instr.field 80 (.agg #[a,b,c]) 0).run Tryz.prog w=.ok a w:=by kernel_rfl
theorem l6 (a b c:Value)(w:World):(Instr.field 80 (.agg #[a,b,c]) 1).run Tryz.prog w=.ok b w:=by kernel_rfl
theorem Rk (a b c:Value)(w:World):(Instr.field 80 (.agg #[a,b,c]) 2).run Tryz.prog w=.ok c w:=by kernel_rfl
theorem qw (g:Nat)(tv:Value)(l:List Tok)(en:Int)(iv:Value)(w:World)(k:Nat)(xs:List NV)(nv:Value)(h:PS g tv l en iv w k xs nv)(c:k≤l.length)(d:l.length≤1000) :
  Calls Tryz.prog 85 #[.pointer (some ⟨g,0,none⟩)] w fun e w'=>e=.panicked [{ v:=.iface 94 (.agg #[.int .i64 (pl l en k)]),recovered:=false }]∧Below w.heap.size w w':=by
 have H:=O h;clear h;have f:=Rk;go_in
 go_wp2_with fail;refine (iQ g tv l en iv _ k xs nv H.o c d).mono ?_;rintro e w1⟨rfl,a⟩;have b:=O a;clear a;go_wp2_with fail;exact⟨rfl,rfl,b.o⟩
theorem contains_one (x y:Bs)(b c T:Nat)(fr:Nat × Nat)(w:World)(a:w.heap[b]? = some (.cells (jM [x]) T fr))(r:Bool)(d:decide (y=x)=r) :
  Calls Tryz.prog 77 #[.slice (some ⟨b,0,none⟩) 1 c,.string (aH y)] w fun e w'=>e=.returned (.bool r)∧w=w':=by
 refine (sQ [x] y b c 1 T fr w a (by simp) rfl).mono ?_;rintro e w' ⟨rfl,rfl⟩
 refine⟨?_,rfl⟩
 rw [← d]
 congr 2
 by_cases h:y=x
 ·subst h;simp [hasB]
 ·simp [hasB,h]
theorem uS (x:Bs)(D:Mist.kind x=3∨Mist.kind x=4)(g:Nat)(tv:Value)(l:List Tok)(en:Int)(iv:Value)(w:World)(k:Nat)(xs:List NV)(nv:Value)(h:PS g tv l en iv w k xs nv)(n:k≤l.length)(u:l.length≤1000)(B:∀ t ∈ l,Mist.kind t.text=t.kind)
  (b c T:Nat) (fr:Nat × Nat) (d:w.heap[b]? = some (.cells (jM [x]) T fr)) (r:Bool) (C:decide (tx l k=x)=r) :
  Calls Tryz.prog 131 #[.pointer (some ⟨g,0,none⟩),.slice (some ⟨b,0,none⟩) 1 c] w fun e w'=>e=.returned (.bool r)∧Below w.heap.size w w':=by
 have m:b < w.heap.size:=(akX.1 d).1;have H:=O h;clear h;have E:=O d;clear d;have j:=O C;clear C
 have i:=O (show tx l k=x→(tg l k).kind=Mist.kind x by
  intro e
  have q:k < l.length:=by
   rcases Nat.lt_or_ge k l.length with h1 | h1
   ·exact h1
   ·exfalso
    rw [tx,mU l k h1] at e
    rw [← e] at D
    exact absurd D (by decide)
  rw [← B _ (tu l k q),show (tg l k).text=x from e])
 clear B;have G:=wT;have fin:∀ (w1 y:World) (cs:Array Value),Below w.heap.size w w1→(w1.alloc (.cells cs 80)).heap[b]? = some (.cells (jM [x]) T fr):=fun w1 y cs d=>nW ((d.block b m).trans E.o) _
 have f:=O fin;clear fin;by_cases h3:(tg l k).kind=3
 ·have A:(((tg l k).kind:Int) == 3)=true:=by simp [h3]
  clear h3;go_in
  go_wp2_with fail;refine (iQ g tv l en iv _ k xs nv H.o n u).mono ?_;rintro e w1⟨rfl,d⟩;have a:=O d;clear d;go_wp2_with fail;refine (contains_one x _ b c T fr _ (f.o _ w1 _ a.o) r j.o).mono ?_;rintro e y⟨rfl,rfl⟩;go_wp2_with fail;go_ret;exact⟨rfl,aG a.o a.o.size⟩
 ·by_cases h4:(tg l k).kind=4
  ·have A:(((tg l k).kind:Int) == 3)=false:=by simp [h4]
   have F:(((tg l k).kind:Int) == 4)=true:=by simp [h4]
   clear h3 h4;go_in
   go_wp2_with fail;refine (iQ g tv l en iv _ k xs nv H.o n u).mono ?_;rintro e w1⟨rfl,d⟩;have a:=O d;clear d;go_wp2_with fail;refine (contains_one x _ b c T fr _ (f.o _ w1 _ a.o) r j.o).mono ?_;rintro e y⟨rfl,rfl⟩;go_wp2_with fail;go_ret;exact⟨rfl,aG a.o a.o.size⟩
  ·have A:(((tg l k).kind:Int) == 3)=false:=by simp;omega
   have F:(((tg l k).kind:Int) == 4)=false:=by simp;omega
   have v:r=false:=by
    rw [← j.o,decide_eq_false_iff_not];intro e
    have:=i.o e
    omega
   subst v;clear h3 h4;go_in
   go_wp2_with fail;refine (iQ g tv l en iv _ k xs nv H.o n u).mono ?_;rintro e w1⟨rfl,d⟩;have a:=O d;clear d;go_wp2_with fail;go_ret;exact⟨rfl,aG a.o a.o.size⟩
def iW (l:List Tok)(en:Int)(k:Nat):Value:=.agg #[.int .u8 (tg l k).kind,.string (aH (tx l k)),.int .i64 (pl l en k)]
theorem sI (g:Nat)(tv:Value)(l:List Tok)(en:Int)(iv:Value)(w:World)(k:Nat)(xs:List NV)(nv:Value)(h:PS g tv l en iv w k xs nv)(m:k≤l.length)(n:l.length≤1000) :
  Calls Tryz.prog 86 #[.pointer (some ⟨g,0,none⟩)] w fun e w'=>e=.returned (.agg #[.int .u8 (tg l k).kind,.string (aH (tx l k)),.int .i64 (pl l en k)])∧PS g tv l en iv w' (k+1) xs nv∧Mv g nv.ownBlock w nv.ownBlock w':=by
 have H:=O h;clear h;have f:=O (H.o.new (ak0 _));have d:=bf.new w 80 #[.int .u8 0,.string ⟨#[]⟩,.int .i64 0];have r:¬ w.heap.size=g:=by have:=H.o.lt;omega
 go_in
 go_wp2_with fail;refine (iQ g tv l en iv _ k xs nv (H.o.alloc _) m n).mono ?_;rintro e w1⟨rfl,c⟩;have a:=d.below c (by simp);have i:=O (((Mv.refl (g:=g) (r0:=nv.ownBlock) (w:=w)).dK (o:=.cells #[.int .u8 0,.string ⟨#[]⟩,.int .i64 0] 80)).aU c);have b:=O ((H.o.alloc (.cells #[.int .u8 0,.string ⟨#[]⟩,.int .i64 0] 80)).below c);clear c d;have c2:=b.o.blk.cell 2;have t:=b.o.blk.frozen 2;have q:=b.o.lt;have j:=a.lt;have r0:=a.cell 0;have r1:=a.cell 1;have r2:=a.cell 2;have u:=a.frozen 0;have x:=a.frozen 1;have y:=a.frozen 2;clear a;go_wp2_with fail;refine bodyPost_ret (v:=iW l en k) (by simp [results,go_sem,iW,r0,r1,r2,j]) rfl ?_;exact⟨rfl,by (repeat (first | exact b.o.step | refine PS.alloc ?_ _ | refine PS.far ?_ f.o _ _)),by (repeat (first | exact i.o | refine Mv.jV ?_ (ak0 _) | refine Mv.dK ?_ | refine Mv.ab6 ?_))⟩
end
section
open Go.RowKit Mist
def iA (D:List Nat):Array Value:=(D.map fun (d:Nat)=>Value.int .i64 (d:Int)).toArray
theorem DY (D:List Nat)(j v:Nat):(iA D).setIfInBounds j (.int .i64 (v:Int))=iA (D.set j v):=by
 unfold iA;rw [akR,List.map_set]
theorem rJ (D:List Nat)(j:Nat)(h:j < D.length):(iA D)[j]? = some (.int .i64 ((D.getD j 0:Nat):Int)):=by
 unfold iA;rw [List.getElem?_toArray,List.getElem?_map,akU h];simp [akY,akU h]
def uG (v:Nat):List Int→List Nat→List Nat
 | [],D=>D
 | k :: r,D=>uG v r (D.set k.toNat (v+1))
def nK (i:Nat)(D:List Nat):List Nat:=if D.getD i 0=0 then D.set i 1 else D
def qY (ns:List Nd)(i:Nat)(D:List Nat):List Nat:=uG ((nK i D).getD i 0) ((ns[i]?.map Nd.kids).getD []) (nK i D)
def T_ (ns:List Nd):Nat→List Nat→List Nat
 | 0,D=>D
 | i+1,D=>T_ ns i (qY ns i D)
def iN (ns:List Nd):List Nat:=T_ ns ns.length (List.replicate ns.length 0)
theorem GR (v:Nat):∀ (ks:List Int) (D:List Nat),(uG v ks D).length=D.length
 | [],_=>rfl
 | k :: r,D=>by rw [uG,GR v r,List.length_set]
theorem xZ (i:Nat)(D:List Nat):(nK i D).length=D.length:=by unfold nK;split <;> simp
theorem Ua (ns:List Nd)(i:Nat)(D:List Nat):(qY ns i D).length=D.length:=by rw [qY,GR,xZ]
theorem x9 (ns:List Nd):∀ (i:Nat) (D:List Nat),(T_ ns i D).length=D.length
 | 0,_=>rfl
 | i+1,D=>by rw [T_,x9 ns i,Ua]
theorem rY (D:List Nat)(i j v:Nat):(D.set i v).getD j 0=if i=j∧j < D.length then v else D.getD j 0:=by
 simp only [akY,List.getElem?_set];by_cases h:i=j
 ·subst h;by_cases h2:i < D.length
  ·simp [h2]
  ·simp [h2]
 ·simp [h]
def lJ (b:Nat)(D:List Nat):Prop:=∀ j,D.getD j 0≤b
theorem lJ.set {b v i:Nat}{D:List Nat}(h:lJ b D)(hv:v≤b):lJ b (D.set i v):=fun j=>by
 rw [rY];split
 ·exact hv
 ·exact h j
theorem lJ.mono {a b:Nat}{D:List Nat}(h:lJ a D)(c:a≤b):lJ b D:=fun j=>Nat.le_trans (h j) c
theorem lJ.uG {b v:Nat}(hv:v+1≤b):∀ (ks:List Int) {D:List Nat},lJ b D→lJ b (uG v ks D)
 | [],_,h=>h
 | _ :: r,_,h=>lJ.uG hv r (h.set hv)
theorem lJ.nK {b i:Nat}{D:List Nat}(h:lJ b D)(a:1≤b):lJ b (nK i D):=by
 unfold Go.Proofs.YtflnfhhgamldhaaGreatDoor.nK;split
 ·exact h.set a
 ·exact h
theorem lJ.qY {b i:Nat}{ns:List Nd}{D:List Nat}(h:lJ b D)(a:1≤b):lJ (b+1) (qY ns i D) :=
 lJ.uG (Nat.succ_le_succ (h.nK a i)) _ ((h.nK a).mono (Nat.le_succ _))
theorem Du (n b:Nat):lJ b (List.replicate n 0):=fun j=>by
 rw [akY,List.getElem?_replicate];split <;> simp
structure zM (w:World) (b o:Nat) (xs:List NV):Prop where
 lt:b < w.heap.size
 kv:∀ (i:Nat) x,xs[i]? = some x→w.cell? ⟨b,o+i * 5+3,none⟩=some x.2
 kids:∀ x ∈ xs,∃ A c,x.2=.slice A x.1.kids.length c∧x.1.kids.length≤1000000∧(0 < x.1.kids.length→∃ bk ok,A=some ⟨bk,ok,none⟩∧bk < w.heap.size∧∀ (j:Nat) k,x.1.kids[j]? = some k→w.cell? ⟨bk,ok+j,none⟩=some (.int .i64 k))
theorem zM.below {w w':World}{b o:Nat}{xs:List NV}(h:zM w b o xs)(a:Below w.heap.size w w'):zM w' b o xs :=
 ⟨alb h.lt a.size,fun i x d=>(a.cell (by exact h.lt)).trans (h.kv i x d),fun x d=>by
  obtain⟨A,c,h1,h3,h2⟩:=h.kids x d
  refine⟨A,c,h1,h3,fun h0=>?_⟩
  obtain⟨m,ok,e,f,n⟩:=h2 h0;exact⟨m,ok,e,alb f a.size,fun j k q=>(a.cell (by exact f)).trans (n j k q)⟩⟩
theorem Ei {xs:List NV}{i:Nat}{x:NV}(h:xs[i]? = some x):(((aF xs)[i]?).map Nd.kids).getD []=x.1.kids:=by
 unfold aF;rw [List.getElem?_map,h];rfl
theorem Hu (n:Nat):madeCells #[.int .i64 0] n=iA (List.replicate n 0):=by
 unfold madeCells iA;apply Array.ext
 ·simp
 ·intro i h1 h2;simp [Nat.mod_one]
theorem Pm (b o c m d:Nat)(B:Option Addr)(xs:List NV)(w:World)(hN:zM w b o xs)(hW:Wf (aF xs))(hn:xs.length≤100000) :
  Calls Tryz.prog 47 #[.agg #[.slice (some ⟨b,o,none⟩) xs.length c,.slice B m d]] w fun e w'=>∃ g,e=.returned (.slice (some ⟨g,0,none⟩) xs.length xs.length)∧w.heap.size≤g∧bf w' g 3 (iA (iN (aF xs)))∧Below w.heap.size w w':=by
 obtain⟨n,R⟩:∃ n,n=xs.length:=⟨_,rfl⟩;rw [← R] at hn ⊢
 have uq:=O R;clear R;have HN:=O hN;clear hN;have HW:=O hW;clear hW;have Y:=run_make_row' (P:=Tryz.prog) 30 3 (.int .i64 0) 8 Tryz.underlying30 kR rfl .i64 .i64 n (by omega) (by omega) (w.alloc (.cells #[.slice (some ⟨b,o,none⟩) n c,.slice B m d] 32));rw [Hu] at Y
 go_in
 go_wp2_with fail;have N:=bf.new (w.alloc (.cells #[.slice (some ⟨b,o,none⟩) n c,.slice B m d] 32)) 3 (iA (List.replicate n 0));rw [show (w.alloc (.cells #[.slice (some ⟨b,o,none⟩) n c,.slice B m d] 32)).heap.size=w.heap.size+1 by simp] at N
 have V:=O N;clear N;have W:=O ((bf.new w 32 #[.slice (some ⟨b,o,none⟩) n c,.slice B m d]).alloc (.cells (iA (List.replicate n 0)) 3));have ni:=O (aG (aG (Below.refl w.heap.size w) (ak0 _) (o:=.cells #[.slice (some ⟨b,o,none⟩) n c,.slice B m d] 32)) (by simp) (o:=.cells (iA (List.replicate n 0)) 3));clear Y;go_loopw [4] (fun i wr=>∃ (k:Nat) (D:List Nat),k≤n∧i=.int .i64 ((k:Int) - 1)∧Hid (D.length=n)∧Hid (bf wr (w.heap.size+1) 3 (iA D))∧Hid (bf wr w.heap.size 32 #[.slice (some ⟨b,o,none⟩) n c,.slice B m d])∧Hid (T_ (aF xs) k D=iN (aF xs))∧Hid (lJ (n - k+1) D)∧Hid (Below w.heap.size w wr)) (fun i _=>(intOf i+1).toNat)
 case atStart=>exact⟨n,List.replicate n 0,ak0 _,rfl,O (by simp),V,W,O (by unfold iN;rw [dL,← uq.o]),O (Du _ _),ni⟩
 case round =>
  clear V W ni;obtain⟨k,D,hk,rfl,IW,U,HT,HD,HA,HL⟩:=hrel;rcases Nat.eq_zero_or_pos k with h0 | h0
  ·subst h0;have HD2:=O (show D=iN (aF xs) from HD.o);go_wp2_with fail;go_ret;exact⟨_,rfl,by omega,by rw [← HD2.o];exact U.o,HL.o⟩
  ·obtain⟨k,rfl⟩:∃ k0,k=k0+1:=⟨k - 1,by omega⟩;rw [show (((k+1:Nat):Int) - 1)=(k:Int) by omega];have tc0:=HT.o.cell 0;have tc1:=HT.o.cell 1
   have dk:wr.cell? ⟨w.heap.size+1,k,none⟩=some (.int .i64 ((D.getD k 0:Nat):Int)):=by
    rw [U.o.cell k];exact rJ D k (by rw [IW.o];omega)
   have fk:=U.o.frozen k;have i1:(0:Int)≤(k:Int):=by omega
   have i2:(k:Int) < (n:Int):=by omega
   obtain⟨v,hv⟩:∃ v,v=D.getD k 0:=⟨_,rfl⟩;rw [← hv] at dk
   have X:=O hv;clear hv;obtain⟨x,hx⟩:∃ x,xs[k]? = some x:=⟨_,akU (by rw [← uq.o];omega)⟩;have HX:=O hx;have HK:=O (HN.o.below HL.o);have kc:=HK.o.kv k x hx;obtain⟨A,ca,Z,hxl,hxk⟩:=HN.o.kids x (ak3 hx);rw [Z] at kc
   have FT:=O hxk;clear hx Z hxk;have hbl:=HN.o.lt;by_cases hz:v=0
   ·subst hz;have n0:(((0:Nat):Int) == 0)=true:=rfl;go_wp2_with fail;have I:=O (show bf (wr.setCell ⟨w.heap.size+1,k,none⟩ (.int .i64 1)) (w.heap.size+1) 3 (iA (nK k D)) from (by unfold nK;rw [if_pos X.o.symm,← DY];exact U.o.g_ k _));have L:=O (show bf (wr.setCell ⟨w.heap.size+1,k,none⟩ (.int .i64 1)) w.heap.size 32 #[.slice (some ⟨b,o,none⟩) n c,.slice B m d] from HT.o.far (by simp) _);have vM:=O (show Below w.heap.size w (wr.setCell ⟨w.heap.size+1,k,none⟩ (.int .i64 1)) from eF HL.o (by simp));have H1:=O (show (nK k D).getD k 0=1 from (by unfold nK;rw [if_pos X.o.symm,rY,if_pos ⟨rfl,by rw [IW.o];omega⟩]));have t:=O (HA.o.nK (i:=k) (by omega));have hv1:1≤n - (k+1)+1:=by have:=t.o k;rw [H1.o] at this;exact this
    have J:=O (xZ k D);go_loopw [34] (fun j T=>∃ (a:Nat) (h:List Nat),a≤x.1.kids.length∧j=.int .i64 a∧Hid (h.length=n)∧Hid (bf T (w.heap.size+1) 3 (iA h))∧Hid (bf T w.heap.size 32 #[.slice (some ⟨b,o,none⟩) n c,.slice B m d])∧Hid (uG 1 (x.1.kids.drop a) h=qY (aF xs) k D)∧Hid (h.getD k 0=1)∧Hid (lJ (n - k+1) h)∧Hid (Below w.heap.size w T)) (fun j _=>x.1.kids.length - (intOf j).toNat)
    case atStart=>exact⟨0,nK k D,ak2 _,rfl,O (J.o.trans IW.o),I,L,O (by rw [List.drop_zero,qY,H1.o,Ei HX.o]),H1,O (t.o.mono (by omega)),vM⟩
    case round =>
     obtain⟨a,h,hj,rfl,H,F,C,y,E,u,M⟩:=hrel;by_cases q:a < x.1.kids.length
     case pos =>
      obtain⟨bk,ok,rfl,Q,G⟩:=FT.o (by omega);obtain⟨kq,r⟩:∃ kq,x.1.kids[a]? = some kq:=⟨_,akU q⟩;have S:=HW.o k x.1 (by unfold aF;rw [List.getElem?_map,HX.o];rfl) kq (ak3 r);obtain⟨f,rfl⟩:∃ f:Nat,kq=(f:Int):=⟨kq.toNat,by omega⟩;have cj:=(M.o.cell (p:=⟨bk,ok+a,none⟩) Q).trans (G a f r)
      have K:=O (show x.1.kids.drop a=(f:Int) :: x.1.kids.drop (a+1) by
       rw [alc q,(akV.1 r).2])
      have ck:wr.cell? ⟨w.heap.size+1,k,none⟩=some (.int .i64 1):=by
       rw [F.o.cell k,rJ h k (by rw [H.o];omega),E.o];rfl
      have fn:=F.o.frozen f
      have cn:wr.cell? ⟨w.heap.size+1,f,none⟩=some (.int .i64 ((h.getD f 0:Nat):Int)):=by
       rw [F.o.cell f,rJ h f (by rw [H.o];omega)]
      have k1:(0:Int)≤(f:Int):=by omega
      have k2:(f:Int) < (n:Int):=by omega
      have hkk:f < k:=by omega
      clear G r S;have j1:decide ((a:Int) < (x.1.kids.length:Int))=true:=ak' (by omega);have j2:decide (a < x.1.kids.length)=true:=ak' q;go_wp2_with fail
      refine⟨⟨a+1,h.set f (1+1),by omega,by go_num,O (by rw [List.length_set];exact H.o),O (by rw [← DY];exact F.o.g_ f _),O (C.o.far (by simp) _),O (by have h9:=y.o;rw [K.o] at h9;exact h9),O (by rw [rY,if_neg (by omega)];exact E.o),O (u.o.set (by omega)),O (eF M.o (by simp))⟩,by simp [intOf];omega⟩
     case neg =>
      have WK:=O (show h=qY (aF xs) k D by have h9:=y.o;rw [List.drop_of_length_le (by omega)] at h9;exact h9);have j1:decide ((a:Int) < (x.1.kids.length:Int))=false:=ala (by omega);have j2:decide (a < x.1.kids.length)=false:=ala q;go_wp2_with fail
      refine⟨⟨k,h,by omega,by go_num,H,F,C,O (by rw [WK.o];exact HD.o),u,M⟩,by (first|(simp [intOf];done)|(simp [intOf];omega))⟩
   ·have n0:((v:Int) == 0)=false:=by simp;omega
    have hz2:=O hz;go_wp2_with fail;have I:=O (show bf wr (w.heap.size+1) 3 (iA (nK k D)) from (by unfold nK;rw [if_neg (by rw [← X.o];exact hz2.o)];exact U.o));have L:=O (show bf wr w.heap.size 32 #[.slice (some ⟨b,o,none⟩) n c,.slice B m d] from HT.o);have vM:=O (show Below w.heap.size w wr from HL.o);have Hv:=O (show (nK k D).getD k 0=v from (by unfold nK;rw [if_neg (by rw [← X.o];exact hz2.o)];exact X.o.symm));have t:=O (HA.o.nK (i:=k) (by omega));have hv1:v≤n - (k+1)+1:=by have:=t.o k;rw [Hv.o] at this;exact this
    have J:=O (xZ k D);go_loopw [34] (fun j T=>∃ (a:Nat) (h:List Nat),a≤x.1.kids.length∧j=.int .i64 a∧Hid (h.length=n)∧Hid (bf T (w.heap.size+1) 3 (iA h))∧Hid (bf T w.heap.size 32 #[.slice (some ⟨b,o,none⟩) n c,.slice B m d])∧Hid (uG v (x.1.kids.drop a) h=qY (aF xs) k D)∧Hid (h.getD k 0=v)∧Hid (lJ (n - k+1) h)∧Hid (Below w.heap.size w T)) (fun j _=>x.1.kids.length - (intOf j).toNat)
    case atStart=>exact⟨0,nK k D,ak2 _,rfl,O (J.o.trans IW.o),I,L,O (by rw [List.drop_zero,qY,Hv.o,Ei HX.o]),Hv,O (t.o.mono (by omega)),vM⟩
    case round =>
     obtain⟨a,h,hj,rfl,H,F,C,y,E,u,M⟩:=hrel;by_cases q:a < x.1.kids.length
     case pos =>
      obtain⟨bk,ok,rfl,Q,G⟩:=FT.o (by omega);obtain⟨kq,r⟩:∃ kq,x.1.kids[a]? = some kq:=⟨_,akU q⟩;have S:=HW.o k x.1 (by unfold aF;rw [List.getElem?_map,HX.o];rfl) kq (ak3 r);obtain⟨f,rfl⟩:∃ f:Nat,kq=(f:Int):=⟨kq.toNat,by omega⟩;have cj:=(M.o.cell (p:=⟨bk,ok+a,none⟩) Q).trans (G a f r)
      have K:=O (show x.1.kids.drop a=(f:Int) :: x.1.kids.drop (a+1) by
       rw [alc q,(akV.1 r).2])
      have ck:wr.cell? ⟨w.heap.size+1,k,none⟩=some (.int .i64 ((v:Nat):Int)):=by
       rw [F.o.cell k,rJ h k (by rw [H.o];omega),E.o]
      have fn:=F.o.frozen f
      have cn:wr.cell? ⟨w.heap.size+1,f,none⟩=some (.int .i64 ((h.getD f 0:Nat):Int)):=by
       rw [F.o.cell f,rJ h f (by rw [H.o];omega)]
      have k1:(0:Int)≤(f:Int):=by omega
      have k2:(f:Int) < (n:Int):=by omega
      have hkk:f < k:=by omega
      clear G r S;have j1:decide ((a:Int) < (x.1.kids.length:Int))=true:=ak' (by omega);have j2:decide (a < x.1.kids.length)=true:=ak' q;go_wp2_with fail
      refine⟨⟨a+1,h.set f (v+1),by omega,by go_num,O (by rw [List.length_set];exact H.o),O (by rw [← DY];exact F.o.g_ f _),O (C.o.far (by simp) _),O (by have h9:=y.o;rw [K.o] at h9;exact h9),O (by rw [rY,if_neg (by omega)];exact E.o),O (u.o.set (by omega)),O (eF M.o (by simp))⟩,by simp [intOf];omega⟩
     case neg =>
      have WK:=O (show h=qY (aF xs) k D by have h9:=y.o;rw [List.drop_of_length_le (by omega)] at h9;exact h9);have j1:decide ((a:Int) < (x.1.kids.length:Int))=false:=ala (by omega);have j2:decide (a < x.1.kids.length)=false:=ala q;go_wp2_with fail
      refine⟨⟨k,h,by omega,by go_num,H,F,C,O (by rw [WK.o];exact HD.o),u,M⟩,by (first|(simp [intOf];done)|(simp [intOf];omega))⟩
end
section
open Go.RowKit Mist
attribute [local go_sem] ah aM aV au ak
theorem vo (w:World)(a b:Obj):((w.alloc a).alloc b).heap[w.heap.size+1]? = some b:=by
 have h:=heap_alloc_new (w.alloc a) b;rw [World.size_alloc] at h;exact h
def aW (l:List Tok)(en:Int)(k:Nat):Ending:=.panicked [{ v:=.iface 94 (.agg #[.int .i64 (pl l en k)]),recovered:=false }]
structure PF (l:List Tok):Prop where
 len:l.length≤1000
 kind:∀ t ∈ l,Mist.kind t.text=t.kind
 text:∀ t ∈ l,t.text.length≤2000
theorem PF.tx {l:List Tok}(h:PF l)(k:Nat):(tx l k).length≤2000:=by
 rcases Nat.lt_or_ge k l.length with h1 | h1
 ·exact h.text _ (tu l k h1)
 ·unfold Mist.tx;rw [mU l k h1];simp
section
variable (g:Nat) (tv:Value) (l:List Tok) (en:Int) (iv:Value) (hF:PF l)
include hF
theorem eP (x:Bs)(u:Mist.kind x=3∨Mist.kind x=4)(w:World)(k:Nat)(xs:List NV)(nv:Value)(h:PS g tv l en iv w k xs nv)(m:k≤l.length)(j:tx l k=x) :
  Calls Tryz.prog 87 #[.pointer (some ⟨g,0,none⟩),.string (aH x)] w fun e w'=>e=.returned (iW l en k)∧PS g tv l en iv w' (k+1) xs nv∧Mv g nv.ownBlock w nv.ownBlock w':=by
 have H:=O h;clear h;have r:=O (show decide (tx l k=x)=true by simp [j]);clear j;have c:=O (H.o.new (ak0 _));have i:=bf.new w 80 #[.int .u8 0,.string ⟨#[]⟩,.int .i64 0];go_in
 go_wp2_with fail;refine (uS x u g tv l en iv _ k xs nv ((H.o.alloc _).alloc _) m hF.len hF.kind (w.heap.size+1) _ 9 (0,0) (vo _ _ _) true r.o).mono ?_;rintro e w1⟨rfl,b⟩;have f:=(i.alloc (.cells #[.string (aH x)] 9)).below b (by simp;omega);have t:=O ((((Mv.refl (g:=g) (r0:=nv.ownBlock) (w:=w)).dK (o:=.cells #[.int .u8 0,.string ⟨#[]⟩,.int .i64 0] 80)).dK (o:=.cells #[.string (aH x)] 9)).aU b);have n:=O (((H.o.alloc (.cells #[.int .u8 0,.string ⟨#[]⟩,.int .i64 0] 80)).alloc (.cells #[.string (aH x)] 9)).below b);clear b i;go_wp2_with fail;refine (sI g tv l en iv _ k xs nv n.o m hF.len).mono ?_;rintro e B⟨rfl,h2,d⟩;have a:=d.blk f (Nat.ne_of_gt c.o.lt) (Ne.symm c.o.row);have y:=O (t.o.trans d);have q:=O h2;clear d h2 f;have A:=a.lt;have r0:=a.cell 0;have r1:=a.cell 1;have r2:=a.cell 2;have C:=a.frozen 0;have D:=a.frozen 1;have E:=a.frozen 2;clear a;go_wp2_with fail;refine bodyPost_ret (v:=iW l en k) (by simp [results,go_sem,iW,r0,r1,r2]) rfl ?_;exact⟨rfl,by (repeat (first | exact q.o | refine PS.far ?_ c.o _ _)),by (repeat (first | exact y.o | refine Mv.jV ?_ (ak0 _)))⟩
theorem f_ (x:Bs)(j:Mist.kind x=3∨Mist.kind x=4)(w:World)(k:Nat)(xs:List NV)(nv:Value)(h:PS g tv l en iv w k xs nv)(d:k≤l.length)(c:¬ tx l k=x) :
  Calls Tryz.prog 87 #[.pointer (some ⟨g,0,none⟩),.string (aH x)] w fun e w'=>e=aW l en k∧Below w.heap.size w w':=by
 have H:=O h;clear h;have i:=O (show decide (tx l k=x)=false by simp [c]);clear c;go_in
 go_wp2_with fail;refine (uS x j g tv l en iv _ k xs nv ((H.o.alloc _).alloc _) d hF.len hF.kind (w.heap.size+1) _ 9 (0,0) (vo _ _ _) false i.o).mono ?_;rintro e w1⟨rfl,a⟩;have f:=O (((H.o.alloc (.cells #[.int .u8 0,.string ⟨#[]⟩,.int .i64 0] 80)).alloc (.cells #[.string (aH x)] 9)).below a);have b:=O ((aG (o:=.cells #[.string (aH x)] 9) (aG (o:=.cells #[.int .u8 0,.string ⟨#[]⟩,.int .i64 0] 80) (Below.refl w.heap.size w) (ak0 _)) (by simp)).trans (a.mono (by simp;omega)));clear a;go_wp2_with fail;refine (qw g tv l en iv _ k xs nv f.o d hF.len).mono ?_;rintro e m⟨rfl,a⟩;go_wp2_with fail;exact⟨rfl,rfl,b.o.trans (a.mono b.o.size)⟩
theorem jI (x:Bs)(n:Mist.kind x=3∨Mist.kind x=4)(w:World)(k:Nat)(xs:List NV)(nv:Value)(h:PS g tv l en iv w k xs nv)(c:k≤l.length)(b:tx l k=x) :
  Calls Tryz.prog 155 #[.pointer (some ⟨g,0,none⟩),.string (aH x)] w fun e w'=>e=.returned (.bool true)∧PS g tv l en iv w' (k+1) xs nv∧Mv g nv.ownBlock w nv.ownBlock w':=by
 have H:=O h;clear h;have j:=O (show decide (tx l k=x)=true by simp [b]);clear b;go_in
 go_wp2_with fail;refine (uS x n g tv l en iv _ k xs nv (H.o.alloc _) c hF.len hF.kind w.heap.size _ 9 (0,0) (heap_alloc_new _ _) true j.o).mono ?_;rintro e w1⟨rfl,a⟩;have m:=O (((Mv.refl (g:=g) (r0:=nv.ownBlock) (w:=w)).dK (o:=.cells #[.string (aH x)] 9)).aU a);have f:=O ((H.o.alloc (.cells #[.string (aH x)] 9)).below a);clear a;go_wp2_with fail;refine (sI g tv l en iv _ k xs nv f.o c hF.len).mono ?_;rintro e r⟨rfl,h2,d⟩;have q:=O (m.o.trans d);have i:=O h2;clear d h2;go_wp2_with fail;go_ret;exact⟨rfl,i.o,q.o⟩
theorem kY (x:Bs)(i:Mist.kind x=3∨Mist.kind x=4)(w:World)(k:Nat)(xs:List NV)(nv:Value)(h:PS g tv l en iv w k xs nv)(f:k≤l.length)(b:¬ tx l k=x) :
  Calls Tryz.prog 155 #[.pointer (some ⟨g,0,none⟩),.string (aH x)] w fun e w'=>e=.returned (.bool false)∧Below w.heap.size w w':=by
 have H:=O h;clear h;have d:=O (show decide (tx l k=x)=false by simp [b]);clear b;go_in
 go_wp2_with fail;refine (uS x i g tv l en iv _ k xs nv (H.o.alloc _) f hF.len hF.kind w.heap.size _ 9 (0,0) (heap_alloc_new _ _) false d.o).mono ?_;rintro e w1⟨rfl,a⟩;have c:=O ((aG (o:=.cells #[.string (aH x)] 9) (Below.refl w.heap.size w) (ak0 _)).trans (a.mono (by simp)));clear a;go_wp2_with fail;go_ret;exact⟨rfl,c.o⟩
theorem Md (c:Nat)(w:World)(k:Nat)(xs:List NV)(nv:Value)(h:PS g tv l en iv w k xs nv)(n:k≤l.length)(m:(tg l k).kind=c) :
  Calls Tryz.prog 183 #[.pointer (some ⟨g,0,none⟩),.int .u8 c] w fun e w'=>e=.returned (iW l en k)∧PS g tv l en iv w' (k+1) xs nv∧Mv g nv.ownBlock w nv.ownBlock w':=by
 have H:=O h;clear h;have u:(((tg l k).kind:Int) != (c:Int))=false:=by rw [m];simp
 clear m;have d:=O (H.o.new (ak0 _));have j:=bf.new w 80 #[.int .u8 0,.string ⟨#[]⟩,.int .i64 0];have A:=wT;go_in
 go_wp2_with fail;refine (iQ g tv l en iv _ k xs nv (H.o.alloc _) n hF.len).mono ?_;rintro e w1⟨rfl,b⟩;have i:=j.below b (by simp);have t:=O (((Mv.refl (g:=g) (r0:=nv.ownBlock) (w:=w)).dK (o:=.cells #[.int .u8 0,.string ⟨#[]⟩,.int .i64 0] 80)).aU b);have q:=O ((H.o.alloc (.cells #[.int .u8 0,.string ⟨#[]⟩,.int .i64 0] 80)).below b);clear b j;go_wp2_with fail;refine (sI g tv l en iv _ k xs nv q.o n hF.len).mono ?_;rintro e B⟨rfl,h2,f⟩;have a:=f.blk i (Nat.ne_of_gt d.o.lt) (Ne.symm d.o.row);have x:=O (t.o.trans f);have r:=O h2;clear f h2 i;have y:=a.lt;have r0:=a.cell 0;have r1:=a.cell 1;have r2:=a.cell 2;have C:=a.frozen 0;have D:=a.frozen 1;have E:=a.frozen 2;clear a;go_wp2_with fail;refine bodyPost_ret (v:=iW l en k) (by simp [results,go_sem,iW,r0,r1,r2]) rfl ?_;exact⟨rfl,by (repeat (first | exact r.o | refine PS.far ?_ d.o _ _)),by (repeat (first | exact x.o | refine Mv.jV ?_ (ak0 _)))⟩
theorem Sc (c:Nat)(w:World)(k:Nat)(xs:List NV)(nv:Value)(h:PS g tv l en iv w k xs nv)(d:k≤l.length)(i:¬ (tg l k).kind=c) :
  Calls Tryz.prog 183 #[.pointer (some ⟨g,0,none⟩),.int .u8 c] w fun e w'=>e=aW l en k∧Below w.heap.size w w':=by
 have H:=O h;clear h;have j:(((tg l k).kind:Int) != (c:Int))=true:=by simp;omega
 clear i;have m:=wT;go_in
 go_wp2_with fail;refine (iQ g tv l en iv _ k xs nv (H.o.alloc _) d hF.len).mono ?_;rintro e w1⟨rfl,a⟩;have b:=O ((aG (o:=.cells #[.int .u8 0,.string ⟨#[]⟩,.int .i64 0] 80) (Below.refl w.heap.size w) (ak0 _)).trans (a.mono (by simp)));have f:=O ((H.o.alloc (.cells #[.int .u8 0,.string ⟨#[]⟩,.int .i64 0] 80)).below a);clear a;go_wp2_with fail;refine (qw g tv l en iv _ k xs nv f.o d hF.len).mono ?_;rintro e n⟨rfl,a⟩;go_wp2_with fail;exact⟨rfl,rfl,b.o.trans (a.mono b.o.size)⟩
theorem kE (w:World)(k:Nat)(xs:List NV)(nv:Value)(h:PS g tv l en iv w k xs nv)(m:k≤l.length)(f:(tg l k).kind=1) :
  Calls Tryz.prog 149 #[.pointer (some ⟨g,0,none⟩)] w fun e w'=>e=.returned (iW l en k)∧PS g tv l en iv w' (k+1) xs nv∧Mv g nv.ownBlock w nv.ownBlock w':=by
 have H:=O h;clear h;have j:=O f;clear f;have b:=O (H.o.new (ak0 _));have d:=bf.new w 80 #[.int .u8 0,.string ⟨#[]⟩,.int .i64 0];go_in
 go_wp2_with fail;refine (Md g tv l en iv hF 1 _ k xs nv (H.o.alloc _) m j.o).mono ?_;rintro e r⟨rfl,h2,c⟩;have a:=c.blk d (Nat.ne_of_gt b.o.lt) (Ne.symm b.o.row);have n:=O (((Mv.refl (g:=g) (r0:=nv.ownBlock) (w:=w)).dK (o:=.cells #[.int .u8 0,.string ⟨#[]⟩,.int .i64 0] 80)).trans c);have i:=O h2;clear c h2 d;have q:=a.lt;have r0:=a.cell 0;have r1:=a.cell 1;have r2:=a.cell 2;have t:=a.frozen 0;have u:=a.frozen 1;have x:=a.frozen 2;clear a;unfold iW;go_wp2_with fail;refine bodyPost_ret (v:=iW l en k) (by simp [results,go_sem,iW,r0,r1,r2]) rfl ?_;exact⟨rfl,by (repeat (first | exact i.o | refine PS.far ?_ b.o _ _)),by (repeat (first | exact n.o | refine Mv.jV ?_ (ak0 _)))⟩
theorem mo (w:World)(k:Nat)(xs:List NV)(nv:Value)(h:PS g tv l en iv w k xs nv)(d:k≤l.length)(a:¬ (tg l k).kind=1) :
  Calls Tryz.prog 149 #[.pointer (some ⟨g,0,none⟩)] w fun e w'=>e=aW l en k∧Below w.heap.size w w':=by
 have H:=O h;clear h;have b:=O a;clear a;go_in
 go_wp2_with fail;refine (Sc g tv l en iv hF 1 _ k xs nv (H.o.alloc _) d b.o).mono ?_;rintro e f⟨rfl,c⟩;unfold aW;go_wp2_with fail;exact⟨rfl,rfl,(aG (o:=.cells #[.int .u8 0,.string ⟨#[]⟩,.int .i64 0] 80) (Below.refl w.heap.size w) (ak0 _)).trans (c.mono (by simp))⟩
end
section
variable (g:Nat) (tv:Value) (l:List Tok) (en:Int) (iv:Value)
theorem abL (K:Nat)(E F:Value)(p:Int)(x:Bs)(N:Int)(D:Value)(kids:List Int)(w:World)(k:Nat)(xs:List NV)(nv:Value)(h:PS g tv l en iv w k xs nv)(q:dD w D kids)(V:xs.length≤1000000) :
  Calls Tryz.prog 151 #[.pointer (some ⟨g,0,none⟩),.int .u8 K,.agg #[E,F,.int .i64 p],.string (aH x),.int .i64 N,D] w fun e w'=>e=.returned (.int .i64 (xs.length:Nat))∧∃ gB,PS g tv l en iv w' k (xs ++ [(⟨K,x,N,kids,p⟩,D)]) gB∧Mv g nv.ownBlock w gB.ownBlock w':=by
 obtain⟨A,c,rfl⟩:=d_ q;obtain⟨S,r,v,y,B⟩:=info_parts Hy;have H:=O h;clear h;have J:=O q;clear q;have Q:=H.o.lt;have c3:=H.o.blk.cell 3;have T:=H.o.blk.frozen 3;obtain⟨f,d⟩:∃ f,f=kids.length:=⟨_,rfl⟩;rw [← d];have L:=O d;clear d;have R:¬ w.heap.size=g:=by omega
 go_in
 go_wp2_with fail
 go_region_law ((refine step_append_lies _ (by rfl) _ _ _ (by rfl) g 50 S _ 5 64 Tryz.underlying29 r v y B rfl (by omega) _ xs.length (jK xs) (by rfl) (((H.o.own.alloc _).alloc _).drew)
                  ⟨w.heap.size+1,0,none⟩ 1 1 (iL (⟨K,x,N,kids,p⟩,.slice A f c)) (by rfl) (by rfl) (World.news_of_block (cs:=#[.int .u8 K,.string (aH x),.int .i64 N,.slice A f c,.int .i64 p]) (t:=50) (fr:=(0,0)) (vo w _ _)) (by intro u I;simp [iL] at I;rcases I with rfl | rfl | rfl | rfl | rfl <;> rfl)
                  (by omega) (by simp only [maxLen];omega) (by omega) (by simp;omega) (w.heap.size+2) (by simp) ?_;intro U cap w1 b a j G;have C:=((H.o.alloc (.cells #[E,F,.int .i64 p] 80)).alloc (.cells #[.int .u8 K,.string (aH x),.int .i64 N,.slice A f c,.int .i64 p] 50)).drew.blk.grown a (fun e=>bD H.o.own H.o.blk (by decide) e.symm);have M:=C.cell 3;have P:=C.frozen 3;clear C))
 all_goals
  have i:=O a;clear a;have n:=O b;clear b;have m:=O j;clear j;go_wp2;go_ret
  refine⟨by (first | rfl|(congr 2;omega)),_,PS.add ((H.o.alloc (.cells #[E,F,.int .i64 p] 80)).alloc (.cells #[.int .u8 K,.string (aH x),.int .i64 N,.slice A f c,.int .i64 p] 50)).drew i.o n.o (L.o ▸ own_below J.o (Below.drew (aG (aG (Below.refl _ _) (ak0 _)) (by simp)))),?_⟩
  refine Mv.ab6 ?_;refine Mv.trans (r1:=nv.ownBlock) (Mv.dK (Mv.dK Mv.refl)).YV (Mv.grown i.o ?_);rcases m.o with e | e
  ·left;rw [e];rfl
  ·right;rw [e];simp [Value.ownBlock]
theorem oD (hF:PF l)(w:World)(k:Nat)(xs:List NV)(nv:Value)(h:PS g tv l en iv w k xs nv)(B:k≤l.length)(f:(tg l k).kind=2) :
  Calls Tryz.prog 156 #[.pointer (some ⟨g,0,none⟩)] w fun e w'=>e=.returned (.tuple #[iW l en k,.int .i64 (numOf (tx l k):Nat)])∧PS g tv l en iv w' (k+1) xs nv∧Mv g nv.ownBlock w nv.ownBlock w':=by
 have H:=O h;clear h;have A:=O (nM (tx l k) (by unfold tx;rw [hF.kind _ (tu l k (h_ f (by simp))),f]));have y:=O f;clear f;have i:=O (H.o.new (ak0 _));have r:=bf.new w 80 #[.int .u8 0,.string ⟨#[]⟩,.int .i64 0];go_in
 go_wp2_with fail;refine (Md g tv l en iv hF 2 _ k xs nv (H.o.alloc _) B y.o).mono ?_;rintro e t⟨rfl,h2,m⟩;have n:=m.blk r (Nat.ne_of_gt i.o.lt) (Ne.symm i.o.row);have E:=O (((Mv.refl (g:=g) (r0:=nv.ownBlock) (w:=w)).dK (o:=.cells #[.int .u8 0,.string ⟨#[]⟩,.int .i64 0] 80)).trans m);have q:=O h2;have j:=bf.new t 80 #[.int .u8 (tg l k).kind,.string (aH (tx l k)),.int .i64 (pl l en k)];have c:=n.alloc (.cells #[.int .u8 (tg l k).kind,.string (aH (tx l k)),.int .i64 (pl l en k)] 80);have C:=n.lt;clear m h2 r n;unfold iW;go_wp2_with fail;refine (Qm (tx l k) _ ((q.o.alloc (.cells #[.int .u8 (tg l k).kind,.string (aH (tx l k)),.int .i64 (pl l en k)] 80)).ahH) (by have:=hF.tx k;omega)).mono ?_;rintro e K⟨rfl,b⟩;rw [A.o];have a:=c.below b c.lt;have d:=j.below b j.lt;have x:=O ((q.o.alloc (.cells #[.int .u8 (tg l k).kind,.string (aH (tx l k)),.int .i64 (pl l en k)] 80)).below b);have u:=O ((E.o.dK (o:=.cells #[.int .u8 (tg l k).kind,.string (aH (tx l k)),.int .i64 (pl l en k)] 80)).aU b);have F:=c.lt;have D:¬ t.heap.size=w.heap.size:=by omega
 clear b c j;have r0:=a.cell 0;have r1:=a.cell 1;have r2:=a.cell 2;have L:=a.frozen 0;have M:=a.frozen 1;have N:=a.frozen 2;have G:=d.cell 0;have I:=d.cell 1;have J:=d.cell 2;clear a d;go_wp2_with fail;refine bodyPost_ret (v:=.tuple #[iW l en k,.int .i64 (numOf (tx l k):Nat)]) (by simp [results,go_sem,iW,r0,r1,r2]) rfl ?_;exact⟨rfl,by (repeat (first | exact x.o | refine PS.far ?_ i.o _ _)),by (repeat (first | exact u.o | refine Mv.jV ?_ (ak0 _)))⟩
theorem sw (hF:PF l)(w:World)(k:Nat)(xs:List NV)(nv:Value)(h:PS g tv l en iv w k xs nv)(d:k≤l.length)(a:¬ (tg l k).kind=2) :
  Calls Tryz.prog 156 #[.pointer (some ⟨g,0,none⟩)] w fun e w'=>e=aW l en k∧Below w.heap.size w w':=by
 have H:=O h;clear h;have b:=O a;clear a;go_in
 go_wp2_with fail;refine (Sc g tv l en iv hF 2 _ k xs nv (H.o.alloc _) d b.o).mono ?_;rintro e f⟨rfl,c⟩;unfold aW;go_wp2_with fail;exact⟨rfl,rfl,(aG (o:=.cells #[.int .u8 0,.string ⟨#[]⟩,.int .i64 0] 80) (Below.refl w.heap.size w) (ak0 _)).trans (c.mono (by simp))⟩
end
def jD:List (Bs × Value)→Nat→List MapEntry
 | [],_=>[]
 | (k,v) :: r,i=>⟨.string (aH k),v,i⟩ :: jD r (i+1)
def qJ (x:Bs):List (Bs × Value)→Option Value
 | []=>none
 | (k,v) :: r=>if x=k then some v else qJ x r
theorem acC (x:Bs)(y:Bs):(aH x == aH y)=decide (x=y):=by
 rw [akZ];constructor
 ·intro h
  have:=au x
  rw [beq_toListBytes] at h
  rw [au,au] at h
  simpa using h
 ·intro h;have h:x=y:=by simpa using h
  rw [h,beq_toListBytes];simp
theorem zV (x:Bs):∀ (l:List (Bs × Value)) (i j:Nat),∃ n,Instr.findNow .string (.string (aH x)) (jD l j) i=some ((qJ x l).map fun v=>(n,v))
 | [],i,j=>⟨0,rfl⟩
 | (k,v) :: r,i,j=>by
  simp only [jD,qJ,Instr.findNow,Instr.sameNow,acC];by_cases h:x=k
  ·exact⟨i,by simp [h]⟩
  ·obtain⟨n,a⟩:=zV x r (i+1) (j+1);exact⟨n,by simp [h,a]⟩
theorem yZ (b:Bool)(s:ByteArray)(w:World):(Instr.checkKey b 10000 9 (.string s)).run Tryz.prog w=.ok () w :=
 MapKept.run_checkKey Tryz.underlying9 (by trivial) b 9999
theorem Ef (T E:TypeId)(z:Value)(a:Tryz.prog.underlying T=some (.map 9 E))(w:World)(h:(zeroValue E).run Tryz.prog w=.ok z w)(l:List (Bs × Value))(m c:Nat)(e:w.heap[m]? = some (.map (jD l 0).toArray c))(x:Bs)(ok:Bool) :
  (Instr.lookup T (.map (some m)) (.string (aH x)) ok).run Tryz.prog w=.ok (if ok then .tuple #[(qJ x l).getD z,.bool (qJ x l).isSome] else (qJ x l).getD z) w:=by
 have d:(getObj m).run Tryz.prog w=.ok (.map (jD l 0).toArray c) w:=MapKept.run_getObj_map e;obtain⟨n,f⟩:=zV x l 0 0
 have b:(Instr.findKey 9 (.string (aH x)) (jD l 0)).run Tryz.prog w=.ok ((qJ x l).map fun v=>(n,v)) w:=by
  simp only [Instr.findKey,Sem.run_bind,run_underlying Tryz.underlying9,Result.andThen_ok,f];rfl
 unfold Instr.lookup;simp only [Sem.run_bind,run_underlying a,Result.andThen_ok,d,yZ,b,Sem.run_pure]
 cases qJ x l with
 | none =>
  simp only [Option.map_none,Sem.run_bind,h,Result.andThen_ok,Sem.run_pure]
  cases ok <;> rfl
 | some v =>
  simp only [Option.map_some,Sem.run_pure,Result.andThen_ok]
  cases ok <;> rfl
theorem heap_put (w:World)(o a:Obj):(w.alloc o).heap.setIfInBounds w.heap.size a=(w.alloc a).heap:=by
 show (w.heap.push o).setIfInBounds w.heap.size a=w.heap.push a
 ext i h1 h2
 ·simp
 ·rw [Array.getElem_setIfInBounds]
  ·rw [Array.getElem_push,Array.getElem_push];split
   ·rename_i h;subst h;simp
   ·split <;> first | rfl|(simp at h2;omega)
  ·simpa using h1
theorem Ns:∀ (l:List (Bs × Value)) (k:Bs) (v:Value) (i:Nat),jD (l ++ [(k,v)]) i=jD l i ++ [⟨.string (aH k),v,i+l.length⟩]
 | [],_,_,_=>rfl
 | (a,b) :: r,k,v,i=>by
  simp only [List.cons_append,jD,Ns r k v (i+1),List.length_cons];rw [show i+1+r.length=i+(r.length+1) by omega]
theorem fq (T E:TypeId)(c:Tryz.prog.underlying T=some (.map 9 E))(w:World)(l:List (Bs × Value))(k:Bs)(v:Value)(h:qJ k l=none) :
  (Instr.mapUpdate T (.map (some w.heap.size)) (.string (aH k)) v).run Tryz.prog (w.alloc (.map (jD l 0).toArray l.length))=.ok () (w.alloc (.map (jD (l ++ [(k,v)]) 0).toArray (l.length+1))):=by
 have b:(w.alloc (.map (jD l 0).toArray l.length)).heap[w.heap.size]? = some (.map (jD l 0).toArray l.length):=heap_alloc_new w _;have f:(getObj w.heap.size).run Tryz.prog (w.alloc (.map (jD l 0).toArray l.length))=.ok (.map (jD l 0).toArray l.length) (w.alloc (.map (jD l 0).toArray l.length)):=MapKept.run_getObj_map b;obtain⟨n,a⟩:=zV k l 0 0;rw [h] at a
 have d:(Instr.findKey 9 (.string (aH k)) (jD l 0)).run Tryz.prog (w.alloc (.map (jD l 0).toArray l.length))=.ok none (w.alloc (.map (jD l 0).toArray l.length)):=by
  simp only [Instr.findKey,Sem.run_bind,run_underlying Tryz.underlying9,Result.andThen_ok,a];rfl
 have i:∀ o,(setObj w.heap.size o).run Tryz.prog (w.alloc (.map (jD l 0).toArray l.length))=.ok () (w.alloc o):=by
  intro o;rw [MapKept.run_setObj_map o b,heap_put];rfl
 have e:(jD l 0).toArray.push ⟨.string (aH k),v,l.length⟩=(jD (l ++ [(k,v)]) 0).toArray:=by
  rw [Ns];simp
 unfold Instr.mapUpdate;simp only [Sem.run_bind,run_underlying c,Result.andThen_ok,f,yZ,d,i,e]
end
