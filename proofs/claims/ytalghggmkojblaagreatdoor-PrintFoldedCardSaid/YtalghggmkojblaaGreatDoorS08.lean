/-
  A part of the proof.
-/
import Derived.Test.YtalghggmkojblaaGreatDoorAtoi
import Derived.Test.YtalghggmkojblaaGreatDoorS07
set_option linter.all false
set_option maxRecDepth 100000
set_option maxHeartbeats 4000000
set_option linter.all false
namespace Go.Proofs.YtalghggmkojblaaGreatDoor
section
open Go.RowKit Mist
attribute [local go_sem] ak aN aV aF aj
section
variable {S:Sz} {B g:Nat} {w W:World} {nv iv pv:Value} {ps:List Pz}
theorem abu (h:PZ S B g w W nv iv pv ps)(k:Nat)(a:Array Value)(l:List Pz)(t:ps.length≤1000000)(u:∀ b,Sem.run Tryz.prog (callFunc k a) b=.ok (.enter k a) b)
  (j:∀ b d,PZ S B g w b nv iv d ps→Below W.heap.size W b→Calls Tryz.prog k a b fun e r=>e=.returned (.tuple #[])∧∃ m,PZ S B g w r nv iv m (iL ps l)) :
  Calls Tryz.prog 82 #[.pointer (some ⟨g,0,none⟩),.func (.func k) #[] a] W fun e b=>e=.returned (.tuple #[])∧∃ d,PZ S B g w b nv iv d (ps ++ cZ false l):=by
 obtain⟨A,c,rfl⟩:=dA h.own;have i:=O (j W _ h (Below.refl _ _));clear j;have H:=O h;clear h;have c2:=H.o.blk.cell 2;go_in
 go_wp2_with fail;refine i.o.mono ?_;rintro e x⟨rfl,m,f⟩;have n:=O f;clear f i;go_wp2_with fail;refine (UY n.o ps.length t).mono ?_;rintro e y⟨rfl,v,f⟩;rw [wJ] at f
 have q:=O f;clear f;go_wp2_with fail;go_end0
 exact⟨rfl,_,q.o⟩
theorem agJ (h:PZ S B g w W nv iv pv ps)(k:Nat)(a:Array Value)(L:Nat→List Pz)(many:Nat)(h0:L 0 ≠ [])(hm:many≤1000000)(M:∀ m,m≤many→ps.length+(gH L m).length < 1000000)
  (u:∀ (j:Nat) d,Sem.run Tryz.prog (callFunc k (#[.int .i64 (j:Nat)] ++ a)) d=.ok (.enter k (#[.int .i64 (j:Nat)] ++ a)) d)
  (N:∀ (j:Nat) d c qs,j < many→qs.length+(L j).length≤1000000→PZ S B g w d nv iv c qs→Calls Tryz.prog k (#[.int .i64 (j:Nat)] ++ a) d fun e T=>e=.returned (.tuple #[])∧∃ F,PZ S B g w T nv iv F (iL qs (L j))) :
  Calls Tryz.prog 55 #[.pointer (some ⟨g,0,none⟩),.int .i64 (many:Nat),.func (.func k) #[] a] W fun e d=>e=.returned (.tuple #[])∧∃ c,PZ S B g w d nv iv c (iL ps (gH L many)):=by
 have J:=O N;clear N;have G:=O M;clear M;have H:=O h;clear h;go_in
 go_wp2_with fail;go_loopw [6,8] (fun _ q wr=>∃ (m:Nat) (c:Value),m≤many∧q=.int .i64 m∧Hid (PZ S B g w wr nv iv c (iL ps (gH L m)))) (fun _ q _=>many - (intOf q).toNat)
 case atStart=>exact⟨0,pv,amN _,rfl,O (by show PZ S B g w W nv iv pv (iL ps []);rw [Lr];exact H.o)⟩
 case round =>
  obtain⟨m,Z,V,rfl,x⟩:=hrel;by_cases n:m < many
  ·have Y:(m:Int) < (many:Int):=by omega
   have C:=u m;have i:=G.o (m+1) (by omega);have r:=G.o m (by omega);have b:(iL ps (gH L m)).length=ps.length+(gH L m).length:=d_ _ _;rcases Nat.eq_zero_or_pos m with E | E
   ·subst E;have I:=O (J.o 0 wr Z (iL ps (gH L 0)) n (by rw [b];show ps.length+0+(L 0).length≤_;have:gH L 1=L 0:=rfl;rw [this] at i;omega) x.o);have U:∀ d,Sem.run Tryz.prog (callFunc k (#[.int .i64 0] ++ a)) d=.ok (.enter k (#[.int .i64 0] ++ a)) d:=u 0;clear i r b u C;go_wp2_with fail;refine Calls.mono (show Calls Tryz.prog k (#[.int .i64 0] ++ a) wr _ from I.o) ?_;rintro e Q⟨rfl,v,f⟩;rw [← XQ] at f
    have A:=O f;clear f I;go_wp2_with fail;exact⟨⟨1,v,by omega,by go_num,A⟩,by simp [intOf];omega⟩
   ·have y1:(0:Int) < (m:Int):=by omega
    have P:gH L (m+1)=gH L m ++ tz [44] (-1) :: cZ true (L m):=by rw [gH,if_neg (by omega)]
    have D:(gH L (m+1)).length=(gH L m).length+1+(L m).length:=by rw [P,amQ,List.length_cons,au];omega
    have K:=O (aaY x.o [44] (-1) (by rw [b];omega));have R:=O (show (iL ps (gH L m) ++ [(⟨[44],false,-1⟩:Pz)]).length+(L m).length≤1000000 by rw [amQ,b];simp;omega);clear i r b u P D;go_wp2_with fail;refine K.o.mono ?_;rintro e X⟨rfl,F,f⟩;have y:=O f;clear f K;go_wp2_with fail;refine (J.o m X F _ n R.o y.o).mono ?_;rintro e Q⟨rfl,v,f⟩;have t:PZ S B g w Q nv iv v (iL ps (gH L (m+1))):=by rw [ab4 ps L h0 E];exact f
    have A:=O t;clear f t;go_wp2_with fail;exact⟨⟨m+1,v,by omega,by go_num,A⟩,by simp [intOf];omega⟩
  ·obtain rfl:many=m:=by omega
   have Y:¬ (many:Int) < (many:Int):=by omega
   clear n;go_wp2_with fail;go_end0
   exact⟨rfl,_,x.o⟩
example (w:World) (c:Array Value):Sem.run Tryz.prog (callFunc 89 c) w=.ok (.enter 89 c) w:=by kernel_rfl
end
def UK (l:Bs)(w:World)(e:Ending)(w':World):Prop:=e=.returned (.tuple #[.int .i64 (numberOf l).1,.int .i64 (numberOf l).2])∧Below w.heap.size w w'
theorem yH {l:Bs}{w w':World}{x y:Int}{p q:Nat}(h:numberOf l=(p,q))(b:x=p)(hy:y=q)(a:Below w.heap.size w w'):UK l w (.returned (.tuple #[.int .i64 x,.int .i64 y])) w':=by
 subst b;subst hy;exact⟨by rw [h],a⟩
theorem aau (l:Bs)(w:World)(h:kind l=2) :
  Calls Tryz.prog 185 #[.string (aG l)] w fun e w'=>e=.returned (.tuple #[.int .i64 (numOf l),.nilIface])∧Below w.heap.size w w':=by
 obtain⟨h1,h2,h3⟩:=vS l h;refine (Tryz.strconv_Atoi_ok (aG l) (by rw [aN];omega) (numOf l) (by rw [show (aG l).data.toList=l by simp [aG]];exact Ns l h3 h1 h2) w).mono ?_;rintro e w' ⟨rfl,a⟩
 refine⟨rfl,?_⟩
 rcases a with rfl | ⟨t,rfl⟩
 ·exact Below.refl _ _
 ·exact Lib.bytesWorld_below w _ t
theorem Lf (s:Bs)(h:kind s=0):jy s=4:=by unfold jy;rw [if_pos h]
theorem SX (s:Bs)(h:¬ kind s=0):jy s=0:=by unfold jy;rw [if_neg h]
theorem Tk (l:Bs)(w:World)(h:Env w)(f:l.length≤100000000) :
  Calls Tryz.prog 183 #[.string (aG l)] w (UK l w):=by
 have c:=O h;clear h;by_cases h0:kind l=0
 ·have h1:((jy l:Int) != 0)=true:=by rw [Lf l h0];rfl
  have b:=O (Eb l (by omega));clear h0;go_in
  go_wp2_with (go_at_call 150;refine (AA l _ c.o f).mono ?_;rintro e w1⟨rfl,a⟩)
  go_ret2
  exact yH b.o rfl rfl a
 have h1:((jy l:Int) != 0)=false:=by rw [SX l h0];rfl
 by_cases h2:kind l=2
 ·have h3:((kind l:Int) != 2)=false:=by simp;omega
  have b:=O (BJ l h2);have i:=O h2;clear h0 h2;go_in
  go_wp2_with (first
   | (go_at_call 150;refine (AA l _ c.o f).mono ?_;rintro e w1⟨rfl,a⟩)
   | (go_at_call 185;refine (aau l _ i.o).mono ?_;rintro e j⟨rfl,d⟩))
  go_ret2
  exact yH b.o rfl rfl (a.trans (d.mono a.size))
 ·have h3:((kind l:Int) != 2)=true:=by simp;omega
  have b:=O (Eb l h2);clear h0 h2;go_in
  go_wp2_with (go_at_call 150;refine (AA l _ c.o f).mono ?_;rintro e w1⟨rfl,a⟩)
  go_ret2
  exact yH b.o rfl rfl a
structure PS (g:Nat) (tv:Value) (l:List Tok) (en:Int) (iv:Value) (w:World) (k:Nat) (xs:List NV) (nv:Value):Prop where
 blk:bY w g 126 #[tv,.int .i64 en,.int .i64 k,nv,iv]
 own:w.ownsRow g 56 5 nv xs.length (jC xs)
 kids:∀ x ∈ xs,dw w x.2 x.1.kids
 toks:FJ w g tv l
 env : Lib.TabBelow Tryz.prog g w "strings.asciiSpace" IntKind.u8 Lib.asciiSpaceTab
theorem qm {g : Nat} {w w' : World} (h : Lib.TabBelow Tryz.prog g w "strings.asciiSpace" IntKind.u8 Lib.asciiSpaceTab) (c : Below g w w') : Lib.TabBelow Tryz.prog g w' "strings.asciiSpace" IntKind.u8 Lib.asciiSpaceTab := fun b a => h b (c.trans a)
section
variable {g:Nat} {tv:Value} {l:List Tok} {en:Int} {iv:Value} {w w':World} {k:Nat} {xs:List NV} {nv:Value}
theorem PS.lt (h:PS g tv l en iv w k xs nv):g < w.heap.size:=h.blk.lt
theorem PS.Ho (h:PS g tv l en iv w k xs nv):∀ b,nv.ownBlock=some b→g≤b:=fun b a=>(h.own.lt b a).1
theorem PS.acO (h:PS g tv l en iv w k xs nv):∀ b,nv.ownBlock=some b→b < w.heap.size:=fun b a=>(h.own.lt b a).2
theorem PS.low (h:PS g tv l en iv w k xs nv){row:Option Nat}(m:Mv g nv.ownBlock w row w'):Below g w w':=m.below h.lt (amL _) h.Ho
theorem PS.uy (h:PS g tv l en iv w k xs nv){row:Option Nat}(m:Mv g nv.ownBlock w row w'){v:Value}{ks:List Int}(a:dw w v ks):dw w' v ks :=
 m.row a (aW a h.blk (by decide)) (eB a h.own (by decide))
theorem PS.below (h:PS g tv l en iv w k xs nv)(a:Below w.heap.size w w'):PS g tv l en iv w' k xs nv :=
 ⟨h.blk.below a h.lt,own_below h.own a,fun x b=>own_below (h.kids x b) a,h.toks.below (a.mono (amM h.lt)),qm h.env (a.mono (amM h.lt))⟩
theorem PS.ajB (h:PS g tv l en iv w k xs nv):Env w:=⟨g,amM h.lt,h.env⟩
theorem PS.step (h:PS g tv l en iv w k xs nv):PS g tv l en iv (w.setCell ⟨g,2,none⟩ (.int .i64 ((k:Int)+1))) (k+1) xs nv :=
 have m:Mv g nv.ownBlock w nv.ownBlock _:=Mv.jX h.blk 2 (.int .i64 ((k:Int)+1))
 ⟨(by have:=h.blk.jX 2 (.int .i64 ((k:Int)+1));simpa using this),ownsRow_setCell_other h.own (aW h.own h.blk (by decide)) _,fun x a=>h.uy m (h.kids x a),h.toks.below (h.low m),qm h.env (h.low m)⟩
theorem PS.add (h:PS g tv l en iv w k xs nv){w1:World}{gY:Value}{x:NV}(c:w.grownBy w1 nv.ownBlock)(a:w1.ownsRow g 56 5 gY (xs.length+1) (jC xs ++ iE x))(b:dw w x.2 x.1.kids):PS g tv l en iv (w1.setCell ⟨g,3,none⟩ gY) k (xs ++ [x]) gY:=by
 have d:=h.blk.grown c (fun e=>aW h.own h.blk (by decide) e.symm)
 have keep:∀ {v:Value} {cs:List Int},dw w v cs→dw (w1.setCell ⟨g,3,none⟩ gY) v cs:=fun b =>
  ownsRow_setCell_other (b.kept c (eB b h.own (by decide))) (aW (b.kept c (eB b h.own (by decide))) d (by decide)) _
 have f:Below g w (w1.setCell ⟨g,3,none⟩ gY):=gQ ((Below.refl _ _).grown c (amM h.lt) h.Ho) (amL _)
 refine⟨?_,?_,fun y hy=>?_,h.toks.below f,qm h.env f⟩
 ·have:=d.jX 3 gY;simpa using this
 ·rw [amQ,qc];have e:jC [x]=iE x:=by simp [jC]
  rw [e];exact ownsRow_setCell_other a (aW a d (by decide)) _
 ·rcases List.mem_append.1 hy with hy | hy
  ·exact keep (h.kids y hy)
  ·rw [List.mem_singleton.1 hy];exact keep b
structure Far (g:Nat) (nv:Value) (xs:List NV) (b:Nat):Prop where
 lt:g < b
 row:nv.ownBlock ≠ some b
 kids:∀ x ∈ xs,x.2.ownBlock ≠ some b
theorem PS.new (h:PS g tv l en iv w k xs nv){b:Nat}(a:w.heap.size≤b):Far g nv xs b :=
 ⟨amY h.lt a,fun e=>by have:=h.acO b e;omega,fun x c e=>by have:=(World.ownsRow.lt (h.kids x c) b e).2;omega⟩
theorem PS.far (h:PS g tv l en iv w k xs nv){b:Nat}(f:Far g nv xs b)(i:Nat)(u:Value):PS g tv l en iv (w.setCell ⟨b,i,none⟩ u) k xs nv :=
 ⟨h.blk.far (p:=⟨b,i,none⟩) (Nat.ne_of_lt f.lt) u,ownsRow_setCell_other h.own f.row u,fun x a=>ownsRow_setCell_other (h.kids x a) (f.kids x a) u,h.toks.below (gQ (Below.refl _ _) (amM f.lt)),qm h.env (gQ (Below.refl _ _) (amM f.lt))⟩
theorem PS.alloc (h:PS g tv l en iv w k xs nv)(o:Obj):PS g tv l en iv (w.alloc o) k xs nv:=h.below ((Below.refl _ _).alloc (amL _) o)
theorem PS.drew (h:PS g tv l en iv w k xs nv):PS g tv l en iv w.drew k xs nv:=h.below (Below.drew (Below.refl _ _))
theorem PS.drewN (h:PS g tv l en iv w k xs nv)(n:Nat):PS g tv l en iv (w.drewN n) k xs nv:=h.below (mJ (Below.refl _ _) n)
end
theorem iU (g:Nat)(tv:Value)(l:List Tok)(en:Int)(iv:Value)(w:World)(k:Nat)(xs:List NV)(nv:Value)(h:PS g tv l en iv w k xs nv)(u:k≤l.length)(x:l.length≤1000) :
  Calls Tryz.prog 108 #[.pointer (some ⟨g,0,none⟩)] w fun e w'=>e=.returned (.agg #[.int .u8 (tg l k).kind,.string (aG (tx l k)),.int .i64 (pl l en k)])∧Below w.heap.size w w':=by
 have t:=h.blk.cell 0;have c1:=h.blk.cell 1;have c2:=h.blk.cell 2;have j:=h.lt;obtain⟨A,c,rfl,i,d⟩:=h.toks;have n:=O (show oZ w (.slice A l.length c) l from ⟨A,c,rfl,i,d.more (amM j)⟩);clear d h;by_cases a:k < l.length
 ·obtain⟨b,o,rfl,d⟩:=n.o.TT (by omega);have E:=d.kind k a;have F:=d.text k a;have G:=d.at_ k a;have q:=d.lt;have r:=O d;clear d;have y:((k:Int) == (l.length:Int))=false:=by simp;omega
  have C:(0:Int)≤(k:Int):=by omega
  have D:(k:Int) < (l.length:Int):=by omega
  have f:=O (show pl l en k=(tg l k).at_ by unfold pl;rw [if_pos a]);go_in
  go_wp2_with fail;go_quiet (fail)
  go_wp2_with fail;go_region
  all_goals
   go_wp2;refine bodyPost_ret (v:=.agg #[.int .u8 (tg l k).kind,.string (aG (tg l k).text),.int .i64 (tg l k).at_]) (by simp [results,Tryz.f108,go_sem]) rfl ?_
   refine⟨by rw [f.o];rfl,?_⟩
   repeat (first | exact Below.refl _ _ | refine gQ ?_ (amL _) | refine mJ ?_ _ | refine aU ?_ (amL _))
 ·obtain rfl:k=l.length:=by omega
  have m:=O (uJ l l.length (amL _));have f:=O (show pl l en l.length=en by unfold pl;rw [if_neg (by omega)]);go_in
  go_wp2_with fail;go_quiet (fail)
  go_wp2_with fail;refine bodyPost_ret (v:=.agg #[.int .u8 0,.string (aG []),.int .i64 en]) (by simp [results,Tryz.f108,go_sem];rfl) rfl ?_
  refine⟨by rw [f.o];unfold tx;rw [m.o];rfl,?_⟩
  repeat (first | exact Below.refl _ _ | refine gQ ?_ (amL _) | refine mJ ?_ _ | refine aU ?_ (amL _))
theorem yO (a b c:Value)(w:World):(Instr.field 112 (.agg #[a,b,c]) 0).run Tryz.prog w=.ok a w:=by kernel_rfl
theorem oG (a b c:Value)(w:World):(Instr.field 112 (.agg #[a,b,c]) 1).run Tryz.prog w=.ok b w:=by kernel_rfl
theorem Un (a b c:Value)(w:World):(Instr.field 112 (.agg #[a,b,c]) 2).run Tryz.prog w=.ok c w:=by kernel_rfl
theorem sU (g:Nat)(tv:Value)(l:List Tok)(en:Int)(iv:Value)(w:World)(k:Nat)(xs:List NV)(nv:Value)(h:PS g tv l en iv w k xs nv)(c:k≤l.length)(d:l.length≤1000) :
  Calls Tryz.prog 109 #[.pointer (some ⟨g,0,none⟩)] w fun e w'=>e=.panicked [{ v:=.iface 128 (.agg #[.int .i64 (pl l en k)]),recovered:=false }]∧Below w.heap.size w w':=by
 have H:=O h;clear h;have f:=Un;go_in
 go_wp2_with fail;refine (iU g tv l en iv _ k xs nv H.o c d).mono ?_;rintro e w1⟨rfl,a⟩;have b:=O a;clear a;go_wp2_with fail;exact⟨rfl,rfl,b.o⟩
theorem contains_one (x y:Bs)(b c T:Nat)(fr:Nat × Nat)(w:World)(a:w.heap[b]? = some (.cells (ng [x]) T fr))(r:Bool)(d:decide (y=x)=r) :
  Calls Tryz.prog 101 #[.slice (some ⟨b,0,none⟩) 1 c,.string (aG y)] w fun e w'=>e=.returned (.bool r)∧w=w':=by
 refine (um [x] y b c 1 T fr w a (by simp) rfl).mono ?_;rintro e w' ⟨rfl,rfl⟩
 refine⟨?_,rfl⟩
 rw [← d]
 congr 2
 by_cases h:y=x
 ·subst h;simp [hasB]
 ·simp [hasB,h]
theorem vR (x:Bs)(E:Mist.kind x=3∨Mist.kind x=4)(g:Nat)(tv:Value)(l:List Tok)(en:Int)(iv:Value)(w:World)(k:Nat)(xs:List NV)(nv:Value)(h:PS g tv l en iv w k xs nv)(n:k≤l.length)(u:l.length≤1000)(C:∀ t ∈ l,Mist.kind t.text=t.kind)
  (b c T:Nat) (fr:Nat × Nat) (d:w.heap[b]? = some (.cells (ng [x]) T fr)) (r:Bool) (D:decide (tx l k=x)=r) :
  Calls Tryz.prog 140 #[.pointer (some ⟨g,0,none⟩),.slice (some ⟨b,0,none⟩) 1 c] w fun e w'=>e=.returned (.bool r)∧Below w.heap.size w w':=by
 have m:b < w.heap.size:=(amI.1 d).1;have H:=O h;clear h;have F:=O d;clear d;have j:=O D;clear D
 have i:=O (show tx l k=x→(tg l k).kind=Mist.kind x by
  intro e
  have q:k < l.length:=by
   rcases Nat.lt_or_ge k l.length with h1 | h1
   ·exact h1
   ·exfalso
    rw [tx,uJ l k h1] at e
    rw [← e] at E
    exact absurd E (by decide)
  rw [← C _ (Md l k q),show (tg l k).text=x from e])
 clear C;have I:=yO;have fin:∀ (w1 y:World) (cs:Array Value),Below w.heap.size w w1→(w1.alloc (.cells cs 112)).heap[b]? = some (.cells (ng [x]) T fr):=fun w1 y cs d=>nZ ((d.block b m).trans F.o) _
 have f:=O fin;clear fin;by_cases h3:(tg l k).kind=3
 ·have A:(((tg l k).kind:Int) == 3)=true:=by simp [h3]
  clear h3;go_in
  go_wp2_with fail;refine (iU g tv l en iv _ k xs nv H.o n u).mono ?_;rintro e w1⟨rfl,d⟩;have a:=O d;clear d;go_wp2_with fail;refine (contains_one x _ b c T fr _ (f.o _ w1 _ a.o) r j.o).mono ?_;rintro e y⟨rfl,rfl⟩;go_wp2_with fail;go_ret;exact⟨rfl,aU a.o a.o.size⟩
 ·by_cases h4:(tg l k).kind=4
  ·have A:(((tg l k).kind:Int) == 3)=false:=by simp [h4]
   have G:(((tg l k).kind:Int) == 4)=true:=by simp [h4]
   clear h3 h4;go_in
   go_wp2_with fail;refine (iU g tv l en iv _ k xs nv H.o n u).mono ?_;rintro e w1⟨rfl,d⟩;have a:=O d;clear d;go_wp2_with fail;refine (contains_one x _ b c T fr _ (f.o _ w1 _ a.o) r j.o).mono ?_;rintro e y⟨rfl,rfl⟩;go_wp2_with fail;go_ret;exact⟨rfl,aU a.o a.o.size⟩
  ·have A:(((tg l k).kind:Int) == 3)=false:=by simp;omega
   have G:(((tg l k).kind:Int) == 4)=false:=by simp;omega
   have v:r=false:=by
    rw [← j.o,decide_eq_false_iff_not];intro e
    have:=i.o e
    omega
   subst v;clear h3 h4;go_in
   go_wp2_with fail;refine (iU g tv l en iv _ k xs nv H.o n u).mono ?_;rintro e w1⟨rfl,d⟩;have a:=O d;clear d;go_wp2_with fail;go_ret;exact⟨rfl,aU a.o a.o.size⟩
def jc (l:List Tok)(en:Int)(k:Nat):Value:=.agg #[.int .u8 (tg l k).kind,.string (aG (tx l k)),.int .i64 (pl l en k)]
theorem tQ (g:Nat)(tv:Value)(l:List Tok)(en:Int)(iv:Value)(w:World)(k:Nat)(xs:List NV)(nv:Value)(h:PS g tv l en iv w k xs nv)(m:k≤l.length)(n:l.length≤1000) :
  Calls Tryz.prog 110 #[.pointer (some ⟨g,0,none⟩)] w fun e w'=>e=.returned (.agg #[.int .u8 (tg l k).kind,.string (aG (tx l k)),.int .i64 (pl l en k)])∧PS g tv l en iv w' (k+1) xs nv∧Mv g nv.ownBlock w nv.ownBlock w':=by
 have H:=O h;clear h;have i:=O (H.o.new (amL _));have f:=bY.new w 112 #[.int .u8 0,.string ⟨#[]⟩,.int .i64 0];have r:¬ w.heap.size=g:=by have:=H.o.lt;omega
 go_in
 go_wp2_with fail;refine (iU g tv l en iv _ k xs nv (H.o.alloc _) m n).mono ?_;rintro e w1⟨rfl,c⟩;have a:=f.below c (by simp);have j:=O (((Mv.refl (g:=g) (r0:=nv.ownBlock) (w:=w)).gT (o:=.cells #[.int .u8 0,.string ⟨#[]⟩,.int .i64 0] 112)).o_ c);have b:=O ((H.o.alloc (.cells #[.int .u8 0,.string ⟨#[]⟩,.int .i64 0] 112)).below c);clear c f;have c2:=b.o.blk.cell 2;have t:=b.o.blk.frozen 2;have q:=b.o.lt;have d:=a.lt;have r0:=a.cell 0;have r1:=a.cell 1;have r2:=a.cell 2;have u:=a.frozen 0;have x:=a.frozen 1;have y:=a.frozen 2;clear a;go_wp2_with fail;refine bodyPost_ret (v:=jc l en k) (by simp [results,go_sem,jc,r0,r1,r2,d]) rfl ?_;exact⟨rfl,by (repeat (first | exact b.o.step | refine PS.alloc ?_ _ | refine PS.far ?_ i.o _ _)),by (repeat (first | exact j.o | refine Mv.R_ ?_ (amL _) | refine Mv.gT ?_ | refine Mv.ad3 ?_))⟩
end
section
open Go.RowKit Mist
def iA (D:List Nat):Array Value:=(D.map fun (d:Nat)=>Value.int .i64 (d:Int)).toArray
theorem Sr (D:List Nat)(j v:Nat):(iA D).setIfInBounds j (.int .i64 (v:Int))=iA (D.set j v):=by
 unfold iA;rw [amC,List.map_set]
theorem Dv (D:List Nat)(j:Nat)(h:j < D.length):(iA D)[j]? = some (.int .i64 ((D.getD j 0:Nat):Int)):=by
 unfold iA;rw [List.getElem?_toArray,List.getElem?_map,amF h];simp [amJ,amF h]
def sP (v:Nat):List Int→List Nat→List Nat
 | [],D=>D
 | k :: r,D=>sP v r (D.set k.toNat (v+1))
def o7 (i:Nat)(D:List Nat):List Nat:=if D.getD i 0=0 then D.set i 1 else D
def rJ (ns:List Nd)(i:Nat)(D:List Nat):List Nat:=sP ((o7 i D).getD i 0) ((ns[i]?.map Nd.kids).getD []) (o7 i D)
def WH (ns:List Nd):Nat→List Nat→List Nat
 | 0,D=>D
 | i+1,D=>WH ns i (rJ ns i D)
def kU (ns:List Nd):List Nat:=WH ns ns.length (List.replicate ns.length 0)
theorem Jo (v:Nat):∀ (ks:List Int) (D:List Nat),(sP v ks D).length=D.length
 | [],_=>rfl
 | k :: r,D=>by rw [sP,Jo v r,List.length_set]
theorem zS (i:Nat)(D:List Nat):(o7 i D).length=D.length:=by unfold o7;split <;> simp
theorem Jp (ns:List Nd)(i:Nat)(D:List Nat):(rJ ns i D).length=D.length:=by rw [rJ,Jo,zS]
theorem FV (ns:List Nd):∀ (i:Nat) (D:List Nat),(WH ns i D).length=D.length
 | 0,_=>rfl
 | i+1,D=>by rw [WH,FV ns i,Jp]
theorem sW (D:List Nat)(i j v:Nat):(D.set i v).getD j 0=if i=j∧j < D.length then v else D.getD j 0:=by
 simp only [amJ,List.getElem?_set];by_cases h:i=j
 ·subst h;by_cases h2:i < D.length
  ·simp [h2]
  ·simp [h2]
 ·simp [h]
def mQ (b:Nat)(D:List Nat):Prop:=∀ j,D.getD j 0≤b
theorem mQ.set {b v i:Nat}{D:List Nat}(h:mQ b D)(hv:v≤b):mQ b (D.set i v):=fun j=>by
 rw [sW];split
 ·exact hv
 ·exact h j
theorem mQ.mono {a b:Nat}{D:List Nat}(h:mQ a D)(c:a≤b):mQ b D:=fun j=>Nat.le_trans (h j) c
theorem mQ.sP {b v:Nat}(hv:v+1≤b):∀ (ks:List Int) {D:List Nat},mQ b D→mQ b (sP v ks D)
 | [],_,h=>h
 | _ :: r,_,h=>mQ.sP hv r (h.set hv)
theorem mQ.o7 {b i:Nat}{D:List Nat}(h:mQ b D)(a:1≤b):mQ b (o7 i D):=by
 unfold Go.Proofs.YtalghggmkojblaaGreatDoor.o7;split
 ·exact h.set a
 ·exact h
theorem mQ.rJ {b i:Nat}{ns:List Nd}{D:List Nat}(h:mQ b D)(a:1≤b):mQ (b+1) (rJ ns i D) :=
 mQ.sP (Nat.succ_le_succ (h.o7 a i)) _ ((h.o7 a).mono (Nat.le_succ _))
theorem Rv (n b:Nat):mQ b (List.replicate n 0):=fun j=>by
 rw [amJ,List.getElem?_replicate];split <;> simp
structure C_ (w:World) (b o:Nat) (xs:List NV):Prop where
 lt:b < w.heap.size
 kv:∀ (i:Nat) x,xs[i]? = some x→w.cell? ⟨b,o+i * 5+3,none⟩=some x.2
 kids:∀ x ∈ xs,∃ A c,x.2=.slice A x.1.kids.length c∧x.1.kids.length≤1000000∧(0 < x.1.kids.length→∃ bk ok,A=some ⟨bk,ok,none⟩∧bk < w.heap.size∧∀ (j:Nat) k,x.1.kids[j]? = some k→w.cell? ⟨bk,ok+j,none⟩=some (.int .i64 k))
theorem C_.below {w w':World}{b o:Nat}{xs:List NV}(h:C_ w b o xs)(a:Below w.heap.size w w'):C_ w' b o xs :=
 ⟨amY h.lt a.size,fun i x d=>(a.cell (by exact h.lt)).trans (h.kv i x d),fun x d=>by
  obtain⟨A,c,h1,h3,h2⟩:=h.kids x d
  refine⟨A,c,h1,h3,fun h0=>?_⟩
  obtain⟨m,ok,e,f,n⟩:=h2 h0;exact⟨m,ok,e,amY f a.size,fun j k q=>(a.cell (by exact f)).trans (n j k q)⟩⟩
theorem OW {xs:List NV}{i:Nat}{x:NV}(h:xs[i]? = some x):(((aH xs)[i]?).map Nd.kids).getD []=x.1.kids:=by
 unfold aH;rw [List.getElem?_map,h];rfl
theorem XI (n:Nat):madeCells #[.int .i64 0] n=iA (List.replicate n 0):=by
 unfold madeCells iA;apply Array.ext
 ·simp
 ·intro i h1 h2;simp [Nat.mod_one]
theorem RO (b o c m d:Nat)(B:Option Addr)(xs:List NV)(w:World)(hN:C_ w b o xs)(hW:Wf (aH xs))(hn:xs.length≤100000) :
  Calls Tryz.prog 70 #[.agg #[.slice (some ⟨b,o,none⟩) xs.length c,.slice B m d]] w fun e w'=>∃ g,e=.returned (.slice (some ⟨g,0,none⟩) xs.length xs.length)∧w.heap.size≤g∧bY w' g 3 (iA (kU (aH xs)))∧Below w.heap.size w w':=by
 obtain⟨n,V⟩:∃ n,n=xs.length:=⟨_,rfl⟩;rw [← V] at hn ⊢
 have vv:=O V;clear V;have HN:=O hN;clear hN;have HW:=O hW;clear hW;have hmk:=run_make_row' (P:=Tryz.prog) 26 3 (.int .i64 0) 8 Tryz.underlying26 jq rfl .i64 .i64 n (by omega) (by omega) (w.alloc (.cells #[.slice (some ⟨b,o,none⟩) n c,.slice B m d] 28));rw [XI] at hmk
 go_in
 go_wp2_with fail;have T:=bY.new (w.alloc (.cells #[.slice (some ⟨b,o,none⟩) n c,.slice B m d] 28)) 3 (iA (List.replicate n 0));rw [show (w.alloc (.cells #[.slice (some ⟨b,o,none⟩) n c,.slice B m d] 28)).heap.size=w.heap.size+1 by simp] at T
 have Z:=O T;clear T;have HT0:=O ((bY.new w 28 #[.slice (some ⟨b,o,none⟩) n c,.slice B m d]).alloc (.cells (iA (List.replicate n 0)) 3));have yh:=O (aU (aU (Below.refl w.heap.size w) (amL _) (o:=.cells #[.slice (some ⟨b,o,none⟩) n c,.slice B m d] 28)) (by simp) (o:=.cells (iA (List.replicate n 0)) 3));clear hmk;go_loopw [4] (fun i wr=>∃ (k:Nat) (D:List Nat),k≤n∧i=.int .i64 ((k:Int) - 1)∧Hid (D.length=n)∧Hid (bY wr (w.heap.size+1) 3 (iA D))∧Hid (bY wr w.heap.size 28 #[.slice (some ⟨b,o,none⟩) n c,.slice B m d])∧Hid (WH (aH xs) k D=kU (aH xs))∧Hid (mQ (n - k+1) D)∧Hid (Below w.heap.size w wr)) (fun i _=>(intOf i+1).toNat)
 case atStart=>exact⟨n,List.replicate n 0,amL _,rfl,O (by simp),Z,HT0,O (by unfold kU;rw [dK,← vv.o]),O (Rv _ _),yh⟩
 case round =>
  clear Z HT0 yh;obtain⟨k,D,hk,rfl,H,Y,HT,HD,HA,HL⟩:=hrel;rcases Nat.eq_zero_or_pos k with h0 | h0
  ·subst h0;have HD2:=O (show D=kU (aH xs) from HD.o);go_wp2_with fail;go_ret;exact⟨_,rfl,by omega,by rw [← HD2.o];exact Y.o,HL.o⟩
  ·obtain⟨k,rfl⟩:∃ k0,k=k0+1:=⟨k - 1,by omega⟩;rw [show (((k+1:Nat):Int) - 1)=(k:Int) by omega];have tc0:=HT.o.cell 0;have tc1:=HT.o.cell 1
   have dk:wr.cell? ⟨w.heap.size+1,k,none⟩=some (.int .i64 ((D.getD k 0:Nat):Int)):=by
    rw [Y.o.cell k];exact Dv D k (by rw [H.o];omega)
   have fk:=Y.o.frozen k;have i1:(0:Int)≤(k:Int):=by omega
   have i2:(k:Int) < (n:Int):=by omega
   obtain⟨v,hv⟩:∃ v,v=D.getD k 0:=⟨_,rfl⟩;rw [← hv] at dk
   have HV:=O hv;clear hv;obtain⟨x,hx⟩:∃ x,xs[k]? = some x:=⟨_,amF (by rw [← vv.o];omega)⟩;have HX:=O hx;have HK:=O (HN.o.below HL.o);have kc:=HK.o.kv k x hx;obtain⟨A,ca,hxe,hxl,hxk⟩:=HN.o.kids x (amO hx);rw [hxe] at kc
   have Y8:=O hxk;clear hx hxe hxk;have hbl:=HN.o.lt;by_cases hz:v=0
   ·subst hz;have n0:(((0:Nat):Int) == 0)=true:=rfl;go_wp2_with fail;have J:=O (show bY (wr.setCell ⟨w.heap.size+1,k,none⟩ (.int .i64 1)) (w.heap.size+1) 3 (iA (o7 k D)) from (by unfold o7;rw [if_pos HV.o.symm,← Sr];exact Y.o.jX k _));have N:=O (show bY (wr.setCell ⟨w.heap.size+1,k,none⟩ (.int .i64 1)) w.heap.size 28 #[.slice (some ⟨b,o,none⟩) n c,.slice B m d] from HT.o.far (by simp) _);have CJ:=O (show Below w.heap.size w (wr.setCell ⟨w.heap.size+1,k,none⟩ (.int .i64 1)) from gQ HL.o (by simp));have H1:=O (show (o7 k D).getD k 0=1 from (by unfold o7;rw [if_pos HV.o.symm,sW,if_pos ⟨rfl,by rw [H.o];omega⟩]));have t:=O (HA.o.o7 (i:=k) (by omega));have hv1:1≤n - (k+1)+1:=by have:=t.o k;rw [H1.o] at this;exact this
    have K:=O (zS k D);go_loopw [34] (fun j Q=>∃ (a:Nat) (h:List Nat),a≤x.1.kids.length∧j=.int .i64 a∧Hid (h.length=n)∧Hid (bY Q (w.heap.size+1) 3 (iA h))∧Hid (bY Q w.heap.size 28 #[.slice (some ⟨b,o,none⟩) n c,.slice B m d])∧Hid (sP 1 (x.1.kids.drop a) h=rJ (aH xs) k D)∧Hid (h.getD k 0=1)∧Hid (mQ (n - k+1) h)∧Hid (Below w.heap.size w Q)) (fun j _=>x.1.kids.length - (intOf j).toNat)
    case atStart=>exact⟨0,o7 k D,amN _,rfl,O (K.o.trans H.o),J,N,O (by rw [List.drop_zero,rJ,H1.o,OW HX.o]),H1,O (t.o.mono (by omega)),CJ⟩
    case round =>
     obtain⟨a,h,hj,rfl,I,F,C,y,E,u,R⟩:=hrel;by_cases q:a < x.1.kids.length
     case pos =>
      obtain⟨bk,ok,rfl,U,G⟩:=Y8.o (by omega);obtain⟨kq,r⟩:∃ kq,x.1.kids[a]? = some kq:=⟨_,amF q⟩;have X:=HW.o k x.1 (by unfold aH;rw [List.getElem?_map,HX.o];rfl) kq (amO r);obtain⟨f,rfl⟩:∃ f:Nat,kq=(f:Int):=⟨kq.toNat,by omega⟩;have cj:=(R.o.cell (p:=⟨bk,ok+a,none⟩) U).trans (G a f r)
      have M:=O (show x.1.kids.drop a=(f:Int) :: x.1.kids.drop (a+1) by
       rw [amZ q,(amG.1 r).2])
      have ck:wr.cell? ⟨w.heap.size+1,k,none⟩=some (.int .i64 1):=by
       rw [F.o.cell k,Dv h k (by rw [I.o];omega),E.o];rfl
      have fn:=F.o.frozen f
      have cn:wr.cell? ⟨w.heap.size+1,f,none⟩=some (.int .i64 ((h.getD f 0:Nat):Int)):=by
       rw [F.o.cell f,Dv h f (by rw [I.o];omega)]
      have k1:(0:Int)≤(f:Int):=by omega
      have k2:(f:Int) < (n:Int):=by omega
      have hkk:f < k:=by omega
      clear G r X;have j1:decide ((a:Int) < (x.1.kids.length:Int))=true:=amW (by omega);have j2:decide (a < x.1.kids.length)=true:=amW q;go_wp2_with fail
      refine⟨⟨a+1,h.set f (1+1),by omega,by go_num,O (by rw [List.length_set];exact I.o),O (by rw [← Sr];exact F.o.jX f _),O (C.o.far (by simp) _),O (by have h9:=y.o;rw [M.o] at h9;exact h9),O (by rw [sW,if_neg (by omega)];exact E.o),O (u.o.set (by omega)),O (gQ R.o (by simp))⟩,by simp [intOf];omega⟩
     case neg =>
      have L:=O (show h=rJ (aH xs) k D by have h9:=y.o;rw [List.drop_of_length_le (by omega)] at h9;exact h9);have j1:decide ((a:Int) < (x.1.kids.length:Int))=false:=amX (by omega);have j2:decide (a < x.1.kids.length)=false:=amX q;go_wp2_with fail
      refine⟨⟨k,h,by omega,by go_num,I,F,C,O (by rw [L.o];exact HD.o),u,R⟩,by (first|(simp [intOf];done)|(simp [intOf];omega))⟩
   ·have n0:((v:Int) == 0)=false:=by simp;omega
    have hz2:=O hz;go_wp2_with fail;have J:=O (show bY wr (w.heap.size+1) 3 (iA (o7 k D)) from (by unfold o7;rw [if_neg (by rw [← HV.o];exact hz2.o)];exact Y.o));have N:=O (show bY wr w.heap.size 28 #[.slice (some ⟨b,o,none⟩) n c,.slice B m d] from HT.o);have CJ:=O (show Below w.heap.size w wr from HL.o);have Hv:=O (show (o7 k D).getD k 0=v from (by unfold o7;rw [if_neg (by rw [← HV.o];exact hz2.o)];exact HV.o.symm));have t:=O (HA.o.o7 (i:=k) (by omega));have hv1:v≤n - (k+1)+1:=by have:=t.o k;rw [Hv.o] at this;exact this
    have K:=O (zS k D);go_loopw [34] (fun j Q=>∃ (a:Nat) (h:List Nat),a≤x.1.kids.length∧j=.int .i64 a∧Hid (h.length=n)∧Hid (bY Q (w.heap.size+1) 3 (iA h))∧Hid (bY Q w.heap.size 28 #[.slice (some ⟨b,o,none⟩) n c,.slice B m d])∧Hid (sP v (x.1.kids.drop a) h=rJ (aH xs) k D)∧Hid (h.getD k 0=v)∧Hid (mQ (n - k+1) h)∧Hid (Below w.heap.size w Q)) (fun j _=>x.1.kids.length - (intOf j).toNat)
    case atStart=>exact⟨0,o7 k D,amN _,rfl,O (K.o.trans H.o),J,N,O (by rw [List.drop_zero,rJ,Hv.o,OW HX.o]),Hv,O (t.o.mono (by omega)),CJ⟩
    case round =>
     obtain⟨a,h,hj,rfl,I,F,C,y,E,u,R⟩:=hrel;by_cases q:a < x.1.kids.length
     case pos =>
      obtain⟨bk,ok,rfl,U,G⟩:=Y8.o (by omega);obtain⟨kq,r⟩:∃ kq,x.1.kids[a]? = some kq:=⟨_,amF q⟩;have X:=HW.o k x.1 (by unfold aH;rw [List.getElem?_map,HX.o];rfl) kq (amO r);obtain⟨f,rfl⟩:∃ f:Nat,kq=(f:Int):=⟨kq.toNat,by omega⟩;have cj:=(R.o.cell (p:=⟨bk,ok+a,none⟩) U).trans (G a f r)
      have M:=O (show x.1.kids.drop a=(f:Int) :: x.1.kids.drop (a+1) by
       rw [amZ q,(amG.1 r).2])
      have ck:wr.cell? ⟨w.heap.size+1,k,none⟩=some (.int .i64 ((v:Nat):Int)):=by
       rw [F.o.cell k,Dv h k (by rw [I.o];omega),E.o]
      have fn:=F.o.frozen f
      have cn:wr.cell? ⟨w.heap.size+1,f,none⟩=some (.int .i64 ((h.getD f 0:Nat):Int)):=by
       rw [F.o.cell f,Dv h f (by rw [I.o];omega)]
      have k1:(0:Int)≤(f:Int):=by omega
      have k2:(f:Int) < (n:Int):=by omega
      have hkk:f < k:=by omega
      clear G r X;have j1:decide ((a:Int) < (x.1.kids.length:Int))=true:=amW (by omega);have j2:decide (a < x.1.kids.length)=true:=amW q;go_wp2_with fail
      refine⟨⟨a+1,h.set f (v+1),by omega,by go_num,O (by rw [List.length_set];exact I.o),O (by rw [← Sr];exact F.o.jX f _),O (C.o.far (by simp) _),O (by have h9:=y.o;rw [M.o] at h9;exact h9),O (by rw [sW,if_neg (by omega)];exact E.o),O (u.o.set (by omega)),O (gQ R.o (by simp))⟩,by simp [intOf];omega⟩
     case neg =>
      have L:=O (show h=rJ (aH xs) k D by have h9:=y.o;rw [List.drop_of_length_le (by omega)] at h9;exact h9);have j1:decide ((a:Int) < (x.1.kids.length:Int))=false:=amX (by omega);have j2:decide (a < x.1.kids.length)=false:=amX q;go_wp2_with fail
      refine⟨⟨k,h,by omega,by go_num,I,F,C,O (by rw [L.o];exact HD.o),u,R⟩,by (first|(simp [intOf];done)|(simp [intOf];omega))⟩
end
