/-
  A part of the proof.
-/
import Derived.Test.YthepmkjggfijoaaGreatDoorSA
import Derived.Lib.AtoiErrMem
import Derived.Deep.QuietTactic
import Derived.BigQuiet
import Derived.Deep.OwnRows
import Derived.Test.YthepmkjggfijoaaGreatDoorAtoi
import Derived.Test.YthepmkjggfijoaaGreatDoorS01
import Derived.Test.YthepmkjggfijoaaGreatDoorS03
import Derived.Test.YthepmkjggfijoaaGreatDoorS05
import Derived.Test.YthepmkjggfijoaaGreatDoorS06
set_option linter.all false
set_option maxRecDepth 100000
set_option maxHeartbeats 4000000
namespace Go.Proofs.YthepmkjggfijoaaGreatDoor
open Go.RowKit Mist
attribute [local go_sem] aj aH aS aB ak
abbrev NV:=Nd × Value
def fC (x:NV):List Value:=[.int .u8 x.1.kind,.string (aM x.1.text),.int .i64 x.1.n,x.2,.int .i64 x.1.at_]
def iO (xs:List NV):List Value:=xs.flatMap fC
theorem rJ (a b:List NV):iO (a ++ b)=iO a ++ iO b:=by simp [iO]
def aA (xs:List NV):List Nd:=xs.map Prod.fst
theorem aD (xs:List NV):(aA xs).length=xs.length:=by simp [aA]
theorem nY (a b:List NV):aA (a ++ b)=aA a ++ aA b:=by simp [aA]
def intCells (ks:List Int):List Value:=ks.map fun a=>Value.int .i64 a
theorem rG (ks:List Int):(intCells ks).length=ks.length:=by simp [intCells]
theorem eT (a b:List Int):intCells (a ++ b)=intCells a ++ intCells b:=by simp [intCells]
def cB (w:World)(v:Value)(ks:List Int):Prop:=w.ownsRow 0 3 1 v ks.length (intCells ks)
theorem cB.none_ (w:World):cB w (.slice none 0 0) []:=World.ownsRow_nil _ _ _ _
theorem rW:(Tryz.prog.info? 50).map (fun i=>(i.zero,i.size,i.bytes))=some (some (.agg #[.int .u8 0,.string ByteArray.empty,.int .i64 0,.slice none 0 0,.int .i64 0]),5,64):=by kernel_rfl
theorem gN:(Tryz.prog.info? 3).map (fun i=>(i.zero,i.size,i.bytes))=some (some (.int .i64 0),1,8):=by kernel_rfl
structure Mv (g:Nat) (row:Option Nat) (w:World) (row':Option Nat) (w':World):Prop where
 os:w'.os=w.os
 tape:w'.tape=w.tape
 output:w'.output=w.output
 size:w.heap.size≤w'.heap.size
 block:∀ b,b < w.heap.size→b ≠ g→some b ≠ row→w'.heap[b]? = w.heap[b]?
 tgt:row'=row∨∀ b,row'=some b→w.heap.size≤b
section
variable {g:Nat} {r0 r1 r2:Option Nat} {w w1 w2:World}
theorem Mv.refl:Mv g r0 w r0 w:=⟨rfl,rfl,rfl,aaJ _,fun _ _ _ _=>rfl,.inl rfl⟩
theorem Mv.trans (h:Mv g r0 w r1 w1)(k:Mv g r1 w1 r2 w2):Mv g r0 w r2 w2:=by
 refine⟨k.os.trans h.os,k.tape.trans h.tape,k.output.trans h.output,Nat.le_trans h.size k.size,fun b a d f=>?_,?_⟩
 ·refine (k.block b (aaW a h.size) d ?_).trans (h.block b a d f);rcases h.tgt with e | e
  ·rw [e];exact f
  ·intro c;have:=e b c.symm;omega
 ·rcases k.tgt with e | e
  ·rcases h.tgt with c | c
   ·exact .inl (e.trans c)
   ·right;intro b a;rw [e] at a;exact c b a
  ·right;intro b a;have:=e b a;have:=h.size;omega
theorem Mv.of_below (h:Below w.heap.size w w1):Mv g r0 w r0 w1:=⟨h.os,h.tape,h.output,h.size,fun b a _ _=>h.block b a,.inl rfl⟩
theorem Mv.below (h:Mv g r0 w r1 w1)(d:g < w.heap.size){B:Nat}(c:B≤g)(a:∀ b,r0=some b→B≤b):Below B w w1 :=
 ⟨h.os,h.tape,h.output,h.size,fun k f=>h.block k (by omega) (by omega) (fun e=>by have:=a k e.symm;omega)⟩
theorem Mv.d_ {T:TypeId}{cs:Array Value}(c:aC w g T cs)(i:Nat)(u:Value):Mv g r0 w r0 (w.setCell ⟨g,i,none⟩ u) :=
 ⟨rfl,rfl,rfl,by simp [World.setCell],fun b _ a _=>Below.heap_setCell w ⟨g,i,none⟩ u b (by simpa using a),.inl rfl⟩
theorem Mv.grown (h:w.grownBy w1 r0)(c:r1=r0∨r1=some w.heap.size):Mv g r0 w r1 w1 :=
 ⟨h.os,h.tape,h.output,h.size,fun b a _ d=>h.block b a d,c.imp id (fun e b a=>by rw [e] at a;injection a with a;omega)⟩
theorem Mv.alloc (o:Obj):Mv g r0 w r0 (w.alloc o):=Mv.of_below ((Below.refl _ _).alloc (aaJ _) o)
theorem Mv.drewN (n:Nat):Mv g r0 w r0 (w.drewN n):=⟨rfl,rfl,rfl,aaJ _,fun _ _ _ _=>rfl,.inl rfl⟩
theorem Mv.blk {b:Nat}{T:TypeId}{cs:Array Value}(h:Mv g r0 w r1 w1)(a:aC w b T cs)(c:b ≠ g)(d:some b ≠ r0):aC w1 b T cs:=(h.block b a.lt c d).trans a
theorem Mv.ne (h:Mv g r0 w r1 w1){b:Nat}(d:b < w.heap.size)(c:some b ≠ r0):some b ≠ r1:=by
 rcases h.tgt with e | e
 ·rw [e];exact c
 ·intro a;have:=e b a.symm;omega
theorem Mv.row {base e s n:Nat}{v:Value}{xs:List Value}(h:Mv g r0 w r1 w1)(f:w.ownsRow base e s v n xs)(j:v.ownBlock ≠ some g)(a:v.ownBlock=none∨v.ownBlock ≠ r0):w1.ownsRow base e s v n xs:=by
 refine⟨f.1,?_⟩
 rcases f.2 with h2 | ⟨b,cap,c,rfl,i,d,r⟩
 ·exact .inl h2
 ·refine .inr ⟨b,cap,c,rfl,i,(h.block b (aaG.1 d).1 ?_ ?_).trans d,r⟩
  ·intro e;exact j (by simp [Value.ownBlock,e])
  ·intro e;rcases a with a | a
   ·simp [Value.ownBlock] at a
   ·exact a (by simp [Value.ownBlock,← e])
theorem iE {e d:TypeId}{b r s y n x:Nat}{v q:Value}{xs m:List Value}(h:w.ownsRow b e s v n xs)(t:w.ownsRow r d y q x m)(j:e ≠ d):v.ownBlock=none∨v.ownBlock ≠ q.ownBlock:=by
 rcases h.2 with ⟨rfl,_⟩ | ⟨g,cap,c,rfl,_,u,_⟩
 ·left;rfl
 ·right
  rcases t.2 with ⟨rfl,_⟩ | ⟨g',o,a,rfl,_,i,_⟩
  ·simp [Value.ownBlock]
  ·intro f;have f:g=g':=by simpa [Value.ownBlock] using f
   subst f;exact aC.ne_ (show aC w g e c from u) (show aC w g d a from i) j rfl
theorem kI {base base' e s n:Nat}{v:Value}{xs:List Value}(h:w.ownsRow base e s v n xs)(c:∀ k,v.ownBlock=some k→base'≤k):w.ownsRow base' e s v n xs:=by
 refine⟨h.1,?_⟩
 rcases h.2 with h2 | ⟨b,cap,a,rfl,_,r⟩
 ·exact .inl h2
 ·exact .inr ⟨b,cap,a,rfl,c b rfl,r⟩
end
theorem gT {w:World}{m:Nat}{o:Obj}(h:w.heap[m]? = some o)(x:Obj):(w.alloc x).heap[m]? = some o :=
 (Lib.alloc_old w x m (aaG.1 h).1).trans h
section
variable {g:Nat} {r0 r1:Option Nat} {w w1 w2:World}
theorem Mv.kL {b i:Nat}{u:Value}(h:Mv g r0 w r1 w1)(f:w.heap.size≤b):Mv g r0 w r1 (w1.setCell ⟨b,i,none⟩ u) :=
 ⟨h.os,h.tape,h.output,by simpa [World.setCell] using h.size,fun c a d e=>(Below.heap_setCell w1 ⟨b,i,none⟩ u c (by simp;omega)).trans (h.block c a d e),h.tgt⟩
theorem Mv.gset {i:Nat}{u:Value}(h:Mv g r0 w r1 w1):Mv g r0 w r1 (w1.setCell ⟨g,i,none⟩ u) :=
 ⟨h.os,h.tape,h.output,by simpa [World.setCell] using h.size,fun c b a d=>(Below.heap_setCell w1 ⟨g,i,none⟩ u c (by simpa using a)).trans (h.block c b a d),h.tgt⟩
theorem Mv.aL (h:Mv g r0 w r1 w1)(a:Below w1.heap.size w1 w2):Mv g r0 w r1 w2:=h.trans (Mv.of_below a)
theorem Mv.dD {o:Obj}(h:Mv g r0 w r1 w1):Mv g r0 w r1 (w1.alloc o):=h.trans (Mv.alloc o)
theorem Mv.Zp (h:Mv g r0 w r1 w1):Mv g r0 w r1 w1.drew:=h.trans (Mv.drewN 1)
end
theorem dx {B:Nat}{a w:World}{b i:Nat}{u:Value}(h:Below B a w)(c:B≤b):Below B a (w.setCell ⟨b,i,none⟩ u):=h.setCell (p:=⟨b,i,none⟩) c u
theorem ah {B:Nat}{a w:World}{o:Obj}(h:Below B a w)(b:B≤w.heap.size):Below B a (w.alloc o):=h.alloc b o
def EA (w:World)(g:Nat)(tv:Value)(l:List Tok):Prop:=∃ A c,tv=.slice A l.length c∧l.length≤c∧Reads w g 3 A l.length (jw l)
theorem EA.toks {w:World}{g:Nat}{tv:Value}{l:List Tok}(h:EA w g tv l)(b:g≤w.heap.size):nC w tv l:=by
 obtain⟨A,c,rfl,a,d⟩:=h;exact⟨A,c,rfl,a,d.more b⟩
theorem EA.below {w w':World}{g:Nat}{tv:Value}{l:List Tok}(h:EA w g tv l)(a:Below g w w'):EA w' g tv l:=by
 obtain⟨A,c,rfl,b,d⟩:=h;exact⟨A,c,rfl,b,d.below a⟩
def LM (l:Bs)(w:World)(e:Ending)(w':World):Prop:=e=.returned (.tuple #[.int .i64 (numberOf l).1,.int .i64 (numberOf l).2])∧Below w.heap.size w w'
theorem pX {l:Bs}{w w':World}{x y:Int}{p q:Nat}(h:numberOf l=(p,q))(b:x=p)(hy:y=q)(a:Below w.heap.size w w'):LM l w (.returned (.tuple #[.int .i64 x,.int .i64 y])) w':=by
 subst b;subst hy;exact⟨by rw [h],a⟩
theorem Za (l:Bs)(w:World)(h:kind l=2) :
  Calls Tryz.prog 231 #[.string (aM l)] w fun e w'=>e=.returned (.tuple #[.int .i64 (numOf l),.nilIface])∧Below w.heap.size w w':=by
 obtain⟨h1,h2,h3⟩:=vo l h;refine (Tryz.strconv_Atoi_ok (aM l) (by rw [aH];omega) (numOf l) (by rw [show (aM l).data.toList=l by simp [aM]];exact NI l h3 h1 h2) w).mono ?_;rintro e w' ⟨rfl,a⟩
 refine⟨rfl,?_⟩
 rcases a with rfl | ⟨t,rfl⟩
 ·exact Below.refl _ _
 ·exact Lib.bytesWorld_below w _ t
theorem Cq (s:Bs)(h:kind s=0):iV s=4:=by unfold iV;rw [if_pos h]
theorem H_ (s:Bs)(h:¬ kind s=0):iV s=0:=by unfold iV;rw [if_neg h]
theorem Sk (l:Bs)(w:World)(h:Env w)(f:l.length≤100000000) :
  Calls Tryz.prog 221 #[.string (aM l)] w (LM l w):=by
 have c:=O h;clear h;by_cases h0:kind l=0
 ·have h1:((iV l:Int) != 0)=true:=by rw [Cq l h0];rfl
  have b:=O (qH l (by omega));clear h0;go_in
  go_wp2_with (go_at_call 165;refine (Cr l _ c.o f).mono ?_;rintro e w1⟨rfl,a⟩)
  go_ret2
  exact pX b.o rfl rfl a
 have h1:((iV l:Int) != 0)=false:=by rw [H_ l h0];rfl
 by_cases h2:kind l=2
 ·have h3:((kind l:Int) != 2)=false:=by simp;omega
  have b:=O (mY l h2);have i:=O h2;clear h0 h2;go_in
  go_wp2_with (first
   | (go_at_call 165;refine (Cr l _ c.o f).mono ?_;rintro e w1⟨rfl,a⟩)
   | (go_at_call 231;refine (Za l _ i.o).mono ?_;rintro e w2⟨rfl,d⟩))
  go_ret2
  exact pX b.o rfl rfl (a.trans (d.mono a.size))
 ·have h3:((kind l:Int) != 2)=true:=by simp;omega
  have b:=O (qH l h2);clear h0 h2;go_in
  go_wp2_with (go_at_call 165;refine (Cr l _ c.o f).mono ?_;rintro e w1⟨rfl,a⟩)
  go_ret2
  exact pX b.o rfl rfl a
theorem Pt (l:Bs)(w:World)(j:l.length≤100000000) :
  Calls Tryz.prog 191 #[.string (aM l)] w (LM l w):=by
 by_cases h0:kind l=0
 ·have h1:((iV l:Int) != 0)=true:=by rw [Cq l h0];rfl
  have d:=O (qH l (by omega));clear h0;go_in
  go_wp2_with (go_at_call 194;refine (ze l _ j).mono ?_;rintro e w1⟨rfl,a⟩)
  go_ret2
  exact pX d.o rfl rfl a
 have h1:((iV l:Int) != 0)=false:=by rw [H_ l h0];rfl
 by_cases h2:kind l=2
 case neg =>
  have h3:((kind l:Int) != 2)=true:=by simp;omega
  have d:=O (qH l h2);clear h0 h2;go_in
  go_wp2_with (go_at_call 194;refine (ze l _ j).mono ?_;rintro e w1⟨rfl,a⟩)
  go_ret2
  exact pX d.o rfl rfl a
 have h3:((kind l:Int) != 2)=false:=by simp;omega
 have d:=O (mY l h2);obtain⟨h4,h5,h6⟩:=vo l h2;have m:=O h6;clear h0 h2 h6;go_in
 go_wp2_with (go_at_call 194;refine (ze l _ j).mono ?_;rintro e w1⟨rfl,a⟩)
 have q:=O a;clear a;go_loopw [6,7] (fun s i wr=>∃ n:Nat,n≤l.length∧i=.int .i64 n∧s=.int .i64 (numOf (l.take n))∧wr=w1) (fun _ i _=>l.length - (intOf i).toNat)
 case atStart=>exact⟨0,aaL _,rfl,by simp [numOf,digits],rfl⟩
 case round =>
  obtain⟨n,v,rfl,rfl,rfl⟩:=hrel;have h:=yG (l.take n) (fun c r=>m.o c (List.mem_of_mem_take r)) (by simp;omega);by_cases f:n < l.length
  ·have b:=Sj l n f;obtain⟨t,u⟩:=Ca _ (m.o _ (gt_mem l n f));go_wp2;exact⟨⟨n+1,by omega,by go_num,by rw [b];go_num,by first | rfl | trivial⟩,by simp [intOf];omega⟩
  ·have e:l.take n=l:=aaN (by omega);rw [e] at h ⊢
   go_wp2;go_ret2
   exact pX d.o rfl rfl q.o
structure PS (g:Nat) (tv:Value) (l:List Tok) (en:Int) (iv:Value) (w:World) (k:Nat) (xs:List NV) (nv:Value):Prop where
 blk:aC w g 107 #[tv,.int .i64 en,.int .i64 k,nv,iv]
 own:w.ownsRow g 50 5 nv xs.length (iO xs)
 kids:∀ x ∈ xs,cB w x.2 x.1.kids
 toks:EA w g tv l
 env : Lib.TabBelow Tryz.prog g w "strings.asciiSpace" IntKind.u8 Lib.asciiSpaceTab
theorem rY {g : Nat} {w w' : World} (h : Lib.TabBelow Tryz.prog g w "strings.asciiSpace" IntKind.u8 Lib.asciiSpaceTab) (c : Below g w w') : Lib.TabBelow Tryz.prog g w' "strings.asciiSpace" IntKind.u8 Lib.asciiSpaceTab := fun b a => h b (c.trans a)
section
variable {g:Nat} {tv:Value} {l:List Tok} {en:Int} {iv:Value} {w w':World} {k:Nat} {xs:List NV} {nv:Value}
theorem PS.lt (h:PS g tv l en iv w k xs nv):g < w.heap.size:=h.blk.lt
theorem PS.IL (h:PS g tv l en iv w k xs nv):∀ b,nv.ownBlock=some b→g≤b:=fun b a=>(h.own.lt b a).1
theorem PS.jf (h:PS g tv l en iv w k xs nv):∀ b,nv.ownBlock=some b→b < w.heap.size:=fun b a=>(h.own.lt b a).2
theorem PS.low (h:PS g tv l en iv w k xs nv){row:Option Nat}(m:Mv g nv.ownBlock w row w'):Below g w w':=m.below h.lt (aaJ _) h.IL
theorem PS.l6 (h:PS g tv l en iv w k xs nv){row:Option Nat}(m:Mv g nv.ownBlock w row w'){v:Value}{ks:List Int}(a:cB w v ks):cB w' v ks :=
 m.row a (aT a h.blk (by decide)) (iE a h.own (by decide))
theorem PS.below (h:PS g tv l en iv w k xs nv)(a:Below w.heap.size w w'):PS g tv l en iv w' k xs nv :=
 ⟨h.blk.below a h.lt,own_below h.own a,fun x b=>own_below (h.kids x b) a,h.toks.below (a.mono (aaK h.lt)),rY h.env (a.mono (aaK h.lt))⟩
theorem PS.envw (h:PS g tv l en iv w k xs nv):Env w:=⟨g,aaK h.lt,h.env⟩
theorem PS.step (h:PS g tv l en iv w k xs nv):PS g tv l en iv (w.setCell ⟨g,2,none⟩ (.int .i64 ((k:Int)+1))) (k+1) xs nv :=
 have m:Mv g nv.ownBlock w nv.ownBlock _:=Mv.d_ h.blk 2 (.int .i64 ((k:Int)+1))
 ⟨(by have:=h.blk.d_ 2 (.int .i64 ((k:Int)+1));simpa using this),ownsRow_setCell_other h.own (aT h.own h.blk (by decide)) _,fun x a=>h.l6 m (h.kids x a),h.toks.below (h.low m),rY h.env (h.low m)⟩
theorem PS.add (h:PS g tv l en iv w k xs nv){w1:World}{eO:Value}{x:NV}(c:w.grownBy w1 nv.ownBlock)(a:w1.ownsRow g 50 5 eO (xs.length+1) (iO xs ++ fC x))(b:cB w x.2 x.1.kids):PS g tv l en iv (w1.setCell ⟨g,3,none⟩ eO) k (xs ++ [x]) eO:=by
 have d:=h.blk.grown c (fun e=>aT h.own h.blk (by decide) e.symm)
 have keep:∀ {v:Value} {cs:List Int},cB w v cs→cB (w1.setCell ⟨g,3,none⟩ eO) v cs:=fun b =>
  ownsRow_setCell_other (b.kept c (iE b h.own (by decide))) (aT (b.kept c (iE b h.own (by decide))) d (by decide)) _
 have f:Below g w (w1.setCell ⟨g,3,none⟩ eO):=dx ((Below.refl _ _).grown c (aaK h.lt) h.IL) (aaJ _)
 refine⟨?_,?_,fun y hy=>?_,h.toks.below f,rY h.env f⟩
 ·have:=d.d_ 3 eO;simpa using this
 ·rw [aaO,rJ];have e:iO [x]=fC x:=by simp [iO]
  rw [e];exact ownsRow_setCell_other a (aT a d (by decide)) _
 ·rcases List.mem_append.1 hy with hy | hy
  ·exact keep (h.kids y hy)
  ·rw [List.mem_singleton.1 hy];exact keep b
structure Far (g:Nat) (nv:Value) (xs:List NV) (b:Nat):Prop where
 lt:g < b
 row:nv.ownBlock ≠ some b
 kids:∀ x ∈ xs,x.2.ownBlock ≠ some b
theorem PS.new (h:PS g tv l en iv w k xs nv){b:Nat}(a:w.heap.size≤b):Far g nv xs b :=
 ⟨aaW h.lt a,fun e=>by have:=h.jf b e;omega,fun x c e=>by have:=(World.ownsRow.lt (h.kids x c) b e).2;omega⟩
theorem PS.far (h:PS g tv l en iv w k xs nv){b:Nat}(f:Far g nv xs b)(i:Nat)(u:Value):PS g tv l en iv (w.setCell ⟨b,i,none⟩ u) k xs nv :=
 ⟨h.blk.far (p:=⟨b,i,none⟩) (Nat.ne_of_lt f.lt) u,ownsRow_setCell_other h.own f.row u,fun x a=>ownsRow_setCell_other (h.kids x a) (f.kids x a) u,h.toks.below (dx (Below.refl _ _) (aaK f.lt)),rY h.env (dx (Below.refl _ _) (aaK f.lt))⟩
theorem PS.alloc (h:PS g tv l en iv w k xs nv)(o:Obj):PS g tv l en iv (w.alloc o) k xs nv:=h.below ((Below.refl _ _).alloc (aaJ _) o)
theorem PS.drew (h:PS g tv l en iv w k xs nv):PS g tv l en iv w.drew k xs nv:=h.below (Below.drew (Below.refl _ _))
theorem PS.drewN (h:PS g tv l en iv w k xs nv)(n:Nat):PS g tv l en iv (w.drewN n) k xs nv:=h.below (gU (Below.refl _ _) n)
end
theorem h_ (g:Nat)(tv:Value)(l:List Tok)(en:Int)(iv:Value)(w:World)(k:Nat)(xs:List NV)(nv:Value)(h:PS g tv l en iv w k xs nv)(u:k≤l.length)(x:l.length≤1000) :
  Calls Tryz.prog 136 #[.pointer (some ⟨g,0,none⟩)] w fun e w'=>e=.returned (.agg #[.int .u8 (tg l k).kind,.string (aM (tx l k)),.int .i64 (pl l en k)])∧Below w.heap.size w w':=by
 have t:=h.blk.cell 0;have c1:=h.blk.cell 1;have c2:=h.blk.cell 2;have j:=h.lt;obtain⟨A,c,rfl,i,d⟩:=h.toks;have n:=O (show nC w (.slice A l.length c) l from ⟨A,c,rfl,i,d.more (aaK j)⟩);clear d h;by_cases a:k < l.length
 ·obtain⟨b,o,rfl,d⟩:=n.o.rowA (by omega);have D:=d.kind k a;have E:=d.text k a;have F:=d.at_ k a;have q:=d.lt;have r:=O d;clear d;have y:((k:Int) == (l.length:Int))=false:=by simp;omega
  have B:(0:Int)≤(k:Int):=by omega
  have C:(k:Int) < (l.length:Int):=by omega
  have f:=O (show pl l en k=(tg l k).at_ by unfold pl;rw [if_pos a]);go_in
  go_wp2_with fail;go_quiet (fail)
  go_wp2_with fail;go_region
  all_goals
   go_wp2;refine bodyPost_ret (v:=.agg #[.int .u8 (tg l k).kind,.string (aM (tg l k).text),.int .i64 (tg l k).at_]) (by simp [results,Tryz.f136,go_sem]) rfl ?_
   refine⟨by rw [f.o];rfl,?_⟩
   repeat (first | exact Below.refl _ _ | refine dx ?_ (aaJ _) | refine gU ?_ _ | refine ah ?_ (aaJ _))
 ·obtain rfl:k=l.length:=by omega
  have m:=O (nS l l.length (aaJ _));have f:=O (show pl l en l.length=en by unfold pl;rw [if_neg (by omega)]);go_in
  go_wp2_with fail;go_quiet (fail)
  go_wp2_with fail;refine bodyPost_ret (v:=.agg #[.int .u8 0,.string (aM []),.int .i64 en]) (by simp [results,Tryz.f136,go_sem];rfl) rfl ?_
  refine⟨by rw [f.o];unfold tx;rw [m.o];rfl,?_⟩
  repeat (first | exact Below.refl _ _ | refine dx ?_ (aaJ _) | refine gU ?_ _ | refine ah ?_ (aaJ _))
theorem AP (a b c:Value)(w:World):(Instr.field 68 (.agg #[a,b,c]) 0).run Tryz.prog w=.ok a w:=by kernel_rfl
theorem mQ (a b c:Value)(w:World):(Instr.field 68 (.agg #[a,b,c]) 1).run Tryz.prog w=.ok b w:=by kernel_rfl
theorem Tt (a b c:Value)(w:World):(Instr.field 68 (.agg #[a,b,c]) 2).run Tryz.prog w=.ok c w:=by kernel_rfl
theorem sJ (g:Nat)(tv:Value)(l:List Tok)(en:Int)(iv:Value)(w:World)(k:Nat)(xs:List NV)(nv:Value)(h:PS g tv l en iv w k xs nv)(c:k≤l.length)(d:l.length≤1000) :
  Calls Tryz.prog 137 #[.pointer (some ⟨g,0,none⟩)] w fun e w'=>e=.panicked [{ v:=.iface 109 (.agg #[.int .i64 (pl l en k)]),recovered:=false }]∧Below w.heap.size w w':=by
 have H:=O h;clear h;have f:=Tt;go_in
 go_wp2_with fail;refine (h_ g tv l en iv _ k xs nv H.o c d).mono ?_;rintro e w1⟨rfl,a⟩;have b:=O a;clear a;go_wp2_with fail;exact⟨rfl,rfl,b.o⟩
theorem contains_one (x y:Bs)(b c T:Nat)(fr:Nat × Nat)(w:World)(a:w.heap[b]? = some (.cells (lD [x]) T fr))(r:Bool)(d:decide (y=x)=r) :
  Calls Tryz.prog 129 #[.slice (some ⟨b,0,none⟩) 1 c,.string (aM y)] w fun e w'=>e=.returned (.bool r)∧w=w':=by
 refine (vZ [x] y b c 1 T fr w a (by simp) rfl).mono ?_;rintro e w' ⟨rfl,rfl⟩
 refine⟨?_,rfl⟩
 rw [← d]
 congr 2
 by_cases h:y=x
 ·subst h;simp [hasB]
 ·simp [hasB,h]
theorem yw (x:Bs)(C:Mist.kind x=3∨Mist.kind x=4)(g:Nat)(tv:Value)(l:List Tok)(en:Int)(iv:Value)(w:World)(k:Nat)(xs:List NV)(nv:Value)(h:PS g tv l en iv w k xs nv)(n:k≤l.length)(u:l.length≤1000)(A:∀ t ∈ l,Mist.kind t.text=t.kind)
  (b c T:Nat) (fr:Nat × Nat) (d:w.heap[b]? = some (.cells (lD [x]) T fr)) (r:Bool) (B:decide (tx l k=x)=r) :
  Calls Tryz.prog 189 #[.pointer (some ⟨g,0,none⟩),.slice (some ⟨b,0,none⟩) 1 c] w fun e w'=>e=.returned (.bool r)∧Below w.heap.size w w':=by
 have m:b < w.heap.size:=(aaG.1 d).1;have H:=O h;clear h;have D:=O d;clear d;have j:=O B;clear B
 have i:=O (show tx l k=x→(tg l k).kind=Mist.kind x by
  intro e
  have q:k < l.length:=by
   rcases Nat.lt_or_ge k l.length with h1 | h1
   ·exact h1
   ·exfalso
    rw [tx,nS l k h1] at e
    rw [← e] at C
    exact absurd C (by decide)
  rw [← A _ (lN l k q),show (tg l k).text=x from e])
 clear A;have F:=AP;have fin:∀ (w1 w2:World) (cs:Array Value),Below w.heap.size w w1→(w1.alloc (.cells cs 68)).heap[b]? = some (.cells (lD [x]) T fr):=fun w1 w2 cs d=>gT ((d.block b m).trans D.o) _
 have f:=O fin;clear fin;by_cases h3:(tg l k).kind=3
 ·have y:(((tg l k).kind:Int) == 3)=true:=by simp [h3]
  clear h3;go_in
  go_wp2_with fail;refine (h_ g tv l en iv _ k xs nv H.o n u).mono ?_;rintro e w1⟨rfl,d⟩;have a:=O d;clear d;go_wp2_with fail;refine (contains_one x _ b c T fr _ (f.o _ w1 _ a.o) r j.o).mono ?_;rintro e w2⟨rfl,rfl⟩;go_wp2_with fail;go_ret;exact⟨rfl,ah a.o a.o.size⟩
 ·by_cases h4:(tg l k).kind=4
  ·have y:(((tg l k).kind:Int) == 3)=false:=by simp [h4]
   have E:(((tg l k).kind:Int) == 4)=true:=by simp [h4]
   clear h3 h4;go_in
   go_wp2_with fail;refine (h_ g tv l en iv _ k xs nv H.o n u).mono ?_;rintro e w1⟨rfl,d⟩;have a:=O d;clear d;go_wp2_with fail;refine (contains_one x _ b c T fr _ (f.o _ w1 _ a.o) r j.o).mono ?_;rintro e w2⟨rfl,rfl⟩;go_wp2_with fail;go_ret;exact⟨rfl,ah a.o a.o.size⟩
  ·have y:(((tg l k).kind:Int) == 3)=false:=by simp;omega
   have E:(((tg l k).kind:Int) == 4)=false:=by simp;omega
   have v:r=false:=by
    rw [← j.o,decide_eq_false_iff_not];intro e
    have:=i.o e
    omega
   subst v;clear h3 h4;go_in
   go_wp2_with fail;refine (h_ g tv l en iv _ k xs nv H.o n u).mono ?_;rintro e w1⟨rfl,d⟩;have a:=O d;clear d;go_wp2_with fail;go_ret;exact⟨rfl,ah a.o a.o.size⟩
structure PC (l:List Tok):Prop where
 len:l.length≤1000
 kind:∀ t ∈ l,Mist.kind t.text=t.kind
 text:∀ t ∈ l,t.text.length≤2000
def jl (l:List Tok)(en:Int)(k:Nat):Value:=.agg #[.int .u8 (tg l k).kind,.string (aM (tx l k)),.int .i64 (pl l en k)]
theorem nO (g:Nat)(tv:Value)(l:List Tok)(en:Int)(iv:Value)(w:World)(k:Nat)(xs:List NV)(nv:Value)(h:PS g tv l en iv w k xs nv)(m:k≤l.length)(n:l.length≤1000) :
  Calls Tryz.prog 138 #[.pointer (some ⟨g,0,none⟩)] w fun e w'=>e=.returned (.agg #[.int .u8 (tg l k).kind,.string (aM (tx l k)),.int .i64 (pl l en k)])∧PS g tv l en iv w' (k+1) xs nv∧Mv g nv.ownBlock w nv.ownBlock w':=by
 have H:=O h;clear h;have f:=O (H.o.new (aaJ _));have d:=aC.new w 68 #[.int .u8 0,.string ⟨#[]⟩,.int .i64 0];have r:¬ w.heap.size=g:=by have:=H.o.lt;omega
 go_in
 go_wp2_with fail;refine (h_ g tv l en iv _ k xs nv (H.o.alloc _) m n).mono ?_;rintro e w1⟨rfl,c⟩;have a:=d.below c (by simp);have i:=O (((Mv.refl (g:=g) (r0:=nv.ownBlock) (w:=w)).dD (o:=.cells #[.int .u8 0,.string ⟨#[]⟩,.int .i64 0] 68)).aL c);have b:=O ((H.o.alloc (.cells #[.int .u8 0,.string ⟨#[]⟩,.int .i64 0] 68)).below c);clear c d;have c2:=b.o.blk.cell 2;have t:=b.o.blk.frozen 2;have q:=b.o.lt;have j:=a.lt;have r0:=a.cell 0;have r1:=a.cell 1;have r2:=a.cell 2;have u:=a.frozen 0;have x:=a.frozen 1;have y:=a.frozen 2;clear a;go_wp2_with fail;refine bodyPost_ret (v:=jl l en k) (by simp [results,go_sem,jl,r0,r1,r2,j]) rfl ?_;exact⟨rfl,by (repeat (first | exact b.o.step | refine PS.alloc ?_ _ | refine PS.far ?_ f.o _ _)),by (repeat (first | exact i.o | refine Mv.kL ?_ (aaJ _) | refine Mv.dD ?_ | refine Mv.gset ?_))⟩
end Go.Proofs.YthepmkjggfijoaaGreatDoor
namespace Go.Proofs.YthepmkjggfijoaaGreatDoor
open Go.RowKit Mist
def iA (D:List Nat):Array Value:=(D.map fun (d:Nat)=>Value.int .i64 (d:Int)).toArray
theorem Hf (D:List Nat)(j v:Nat):(iA D).setIfInBounds j (.int .i64 (v:Int))=iA (D.set j v):=by
 unfold iA;rw [aaA,List.map_set]
theorem sM (D:List Nat)(j:Nat)(h:j < D.length):(iA D)[j]? = some (.int .i64 ((D.getD j 0:Nat):Int)):=by
 unfold iA;rw [List.getElem?_toArray,List.getElem?_map,aaD h];simp [aaH,aaD h]
def tV (v:Nat):List Int→List Nat→List Nat
 | [],D=>D
 | k :: r,D=>tV v r (D.set k.toNat (v+1))
def nD (i:Nat)(D:List Nat):List Nat:=if D.getD i 0=0 then D.set i 1 else D
def qy (ns:List Nd)(i:Nat)(D:List Nat):List Nat:=tV ((nD i D).getD i 0) ((ns[i]?.map Nd.kids).getD []) (nD i D)
def Rq (ns:List Nd):Nat→List Nat→List Nat
 | 0,D=>D
 | i+1,D=>Rq ns i (qy ns i D)
def f_ (ns:List Nd):List Nat:=Rq ns ns.length (List.replicate ns.length 0)
theorem Kc (v:Nat):∀ (ks:List Int) (D:List Nat),(tV v ks D).length=D.length
 | [],_=>rfl
 | k :: r,D=>by rw [tV,Kc v r,List.length_set]
theorem xV (i:Nat)(D:List Nat):(nD i D).length=D.length:=by unfold nD;split <;> simp
theorem Ke (ns:List Nd)(i:Nat)(D:List Nat):(qy ns i D).length=D.length:=by rw [qy,Kc,xV]
theorem uV (ns:List Nd):∀ (i:Nat) (D:List Nat),(Rq ns i D).length=D.length
 | 0,_=>rfl
 | i+1,D=>by rw [Rq,uV ns i,Ke]
theorem qD (D:List Nat)(i j v:Nat):(D.set i v).getD j 0=if i=j∧j < D.length then v else D.getD j 0:=by
 simp only [aaH,List.getElem?_set];by_cases h:i=j
 ·subst h;by_cases h2:i < D.length
  ·simp [h2]
  ·simp [h2]
 ·simp [h]
def mE (b:Nat)(D:List Nat):Prop:=∀ j,D.getD j 0≤b
theorem mE.set {b v i:Nat}{D:List Nat}(h:mE b D)(hv:v≤b):mE b (D.set i v):=fun j=>by
 rw [qD];split
 ·exact hv
 ·exact h j
theorem mE.mono {a b:Nat}{D:List Nat}(h:mE a D)(c:a≤b):mE b D:=fun j=>Nat.le_trans (h j) c
theorem mE.tV {b v:Nat}(hv:v+1≤b):∀ (ks:List Int) {D:List Nat},mE b D→mE b (tV v ks D)
 | [],_,h=>h
 | _ :: r,_,h=>mE.tV hv r (h.set hv)
theorem mE.nD {b i:Nat}{D:List Nat}(h:mE b D)(a:1≤b):mE b (nD i D):=by
 unfold Go.Proofs.YthepmkjggfijoaaGreatDoor.nD;split
 ·exact h.set a
 ·exact h
theorem mE.qy {b i:Nat}{ns:List Nd}{D:List Nat}(h:mE b D)(a:1≤b):mE (b+1) (qy ns i D) :=
 mE.tV (Nat.succ_le_succ (h.nD a i)) _ ((h.nD a).mono (Nat.le_succ _))
theorem Gl (n b:Nat):mE b (List.replicate n 0):=fun j=>by
 rw [aaH,List.getElem?_replicate];split <;> simp
structure DI (w:World) (b o:Nat) (xs:List NV):Prop where
 lt:b < w.heap.size
 kv:∀ (i:Nat) x,xs[i]? = some x→w.cell? ⟨b,o+i * 5+3,none⟩=some x.2
 kids:∀ x ∈ xs,∃ A c,x.2=.slice A x.1.kids.length c∧x.1.kids.length≤1000000∧(0 < x.1.kids.length→∃ bk ok,A=some ⟨bk,ok,none⟩∧bk < w.heap.size∧∀ (j:Nat) k,x.1.kids[j]? = some k→w.cell? ⟨bk,ok+j,none⟩=some (.int .i64 k))
theorem DI.below {w w':World}{b o:Nat}{xs:List NV}(h:DI w b o xs)(a:Below w.heap.size w w'):DI w' b o xs :=
 ⟨aaW h.lt a.size,fun i x d=>(a.cell (by exact h.lt)).trans (h.kv i x d),fun x d=>by
  obtain⟨A,c,h1,h3,h2⟩:=h.kids x d
  refine⟨A,c,h1,h3,fun h0=>?_⟩
  obtain⟨m,ok,e,f,n⟩:=h2 h0;exact⟨m,ok,e,aaW f a.size,fun j k q=>(a.cell (by exact f)).trans (n j k q)⟩⟩
theorem yE {xs:List NV}{i:Nat}{x:NV}(h:xs[i]? = some x):(((aA xs)[i]?).map Nd.kids).getD []=x.1.kids:=by
 unfold aA;rw [List.getElem?_map,h];rfl
theorem Kv (n:Nat):madeCells #[.int .i64 0] n=iA (List.replicate n 0):=by
 unfold madeCells iA;apply Array.ext
 ·simp
 ·intro i h1 h2;simp [Nat.mod_one]
theorem Rv (b o c m d:Nat)(B:Option Addr)(xs:List NV)(w:World)(hN:DI w b o xs)(hW:Wf (aA xs))(hn:xs.length≤100000) :
  Calls Tryz.prog 95 #[.agg #[.slice (some ⟨b,o,none⟩) xs.length c,.slice B m d]] w fun e w'=>∃ g,e=.returned (.slice (some ⟨g,0,none⟩) xs.length xs.length)∧w.heap.size≤g∧aC w' g 3 (iA (f_ (aA xs)))∧Below w.heap.size w w':=by
 obtain⟨n,R⟩:∃ n,n=xs.length:=⟨_,rfl⟩;rw [← R] at hn ⊢
 have pF:=O R;clear R;have HN:=O hN;clear hN;have HW:=O hW;clear hW;have Y:=run_make_row' (P:=Tryz.prog) 24 3 (.int .i64 0) 8 Tryz.underlying24 gN rfl .i64 .i64 n (by omega) (by omega) (w.alloc (.cells #[.slice (some ⟨b,o,none⟩) n c,.slice B m d] 26));rw [Kv] at Y
 go_in
 go_wp2_with fail;have N:=aC.new (w.alloc (.cells #[.slice (some ⟨b,o,none⟩) n c,.slice B m d] 26)) 3 (iA (List.replicate n 0));rw [show (w.alloc (.cells #[.slice (some ⟨b,o,none⟩) n c,.slice B m d] 26)).heap.size=w.heap.size+1 by simp] at N
 have V:=O N;clear N;have W:=O ((aC.new w 26 #[.slice (some ⟨b,o,none⟩) n c,.slice B m d]).alloc (.cells (iA (List.replicate n 0)) 3));have eH:=O (ah (ah (Below.refl w.heap.size w) (aaJ _) (o:=.cells #[.slice (some ⟨b,o,none⟩) n c,.slice B m d] 26)) (by simp) (o:=.cells (iA (List.replicate n 0)) 3));clear Y;go_loopw [4] (fun i wr=>∃ (k:Nat) (D:List Nat),k≤n∧i=.int .i64 ((k:Int) - 1)∧Hid (D.length=n)∧Hid (aC wr (w.heap.size+1) 3 (iA D))∧Hid (aC wr w.heap.size 26 #[.slice (some ⟨b,o,none⟩) n c,.slice B m d])∧Hid (Rq (aA xs) k D=f_ (aA xs))∧Hid (mE (n - k+1) D)∧Hid (Below w.heap.size w wr)) (fun i _=>(intOf i+1).toNat)
 case atStart=>exact⟨n,List.replicate n 0,aaJ _,rfl,O (by simp),V,W,O (by unfold f_;rw [aD,← pF.o]),O (Gl _ _),eH⟩
 case round =>
  clear V W eH;obtain⟨k,D,hk,rfl,Lh,U,HT,HD,HA,HL⟩:=hrel;rcases Nat.eq_zero_or_pos k with h0 | h0
  ·subst h0;have HD2:=O (show D=f_ (aA xs) from HD.o);go_wp2_with fail;go_ret;exact⟨_,rfl,by omega,by rw [← HD2.o];exact U.o,HL.o⟩
  ·obtain⟨k,rfl⟩:∃ k0,k=k0+1:=⟨k - 1,by omega⟩;rw [show (((k+1:Nat):Int) - 1)=(k:Int) by omega];have tc0:=HT.o.cell 0;have tc1:=HT.o.cell 1
   have dk:wr.cell? ⟨w.heap.size+1,k,none⟩=some (.int .i64 ((D.getD k 0:Nat):Int)):=by
    rw [U.o.cell k];exact sM D k (by rw [Lh.o];omega)
   have fk:=U.o.frozen k;have i1:(0:Int)≤(k:Int):=by omega
   have i2:(k:Int) < (n:Int):=by omega
   obtain⟨v,hv⟩:∃ v,v=D.getD k 0:=⟨_,rfl⟩;rw [← hv] at dk
   have X:=O hv;clear hv;obtain⟨x,hx⟩:∃ x,xs[k]? = some x:=⟨_,aaD (by rw [← pF.o];omega)⟩;have HX:=O hx;have HK:=O (HN.o.below HL.o);have kc:=HK.o.kv k x hx;obtain⟨A,ca,Z,hxl,hxk⟩:=HN.o.kids x (aaM hx);rw [Z] at kc
   have tK:=O hxk;clear hx Z hxk;have hbl:=HN.o.lt;by_cases hz:v=0
   ·subst hz;have n0:(((0:Nat):Int) == 0)=true:=rfl;go_wp2_with fail;have I:=O (show aC (wr.setCell ⟨w.heap.size+1,k,none⟩ (.int .i64 1)) (w.heap.size+1) 3 (iA (nD k D)) from (by unfold nD;rw [if_pos X.o.symm,← Hf];exact U.o.d_ k _));have L:=O (show aC (wr.setCell ⟨w.heap.size+1,k,none⟩ (.int .i64 1)) w.heap.size 26 #[.slice (some ⟨b,o,none⟩) n c,.slice B m d] from HT.o.far (by simp) _);have uE:=O (show Below w.heap.size w (wr.setCell ⟨w.heap.size+1,k,none⟩ (.int .i64 1)) from dx HL.o (by simp));have H1:=O (show (nD k D).getD k 0=1 from (by unfold nD;rw [if_pos X.o.symm,qD,if_pos ⟨rfl,by rw [Lh.o];omega⟩]));have t:=O (HA.o.nD (i:=k) (by omega));have hv1:1≤n - (k+1)+1:=by have:=t.o k;rw [H1.o] at this;exact this
    have J:=O (xV k D);go_loopw [34] (fun j T=>∃ (a:Nat) (h:List Nat),a≤x.1.kids.length∧j=.int .i64 a∧Hid (h.length=n)∧Hid (aC T (w.heap.size+1) 3 (iA h))∧Hid (aC T w.heap.size 26 #[.slice (some ⟨b,o,none⟩) n c,.slice B m d])∧Hid (tV 1 (x.1.kids.drop a) h=qy (aA xs) k D)∧Hid (h.getD k 0=1)∧Hid (mE (n - k+1) h)∧Hid (Below w.heap.size w T)) (fun j _=>x.1.kids.length - (intOf j).toNat)
    case atStart=>exact⟨0,nD k D,aaL _,rfl,O (J.o.trans Lh.o),I,L,O (by rw [List.drop_zero,qy,H1.o,yE HX.o]),H1,O (t.o.mono (by omega)),uE⟩
    case round =>
     obtain⟨a,h,hj,rfl,H,E,C,y,xB,u,M⟩:=hrel;by_cases q:a < x.1.kids.length
     case pos =>
      obtain⟨bk,ok,rfl,Q,F⟩:=tK.o (by omega);obtain⟨G,r⟩:∃ G,x.1.kids[a]? = some G:=⟨_,aaD q⟩;have S:=HW.o k x.1 (by unfold aA;rw [List.getElem?_map,HX.o];rfl) G (aaM r);obtain⟨f,rfl⟩:∃ f:Nat,G=(f:Int):=⟨G.toNat,by omega⟩;have cj:=(M.o.cell (p:=⟨bk,ok+a,none⟩) Q).trans (F a f r)
      have K:=O (show x.1.kids.drop a=(f:Int) :: x.1.kids.drop (a+1) by
       rw [aaX q,(aaE.1 r).2])
      have ck:wr.cell? ⟨w.heap.size+1,k,none⟩=some (.int .i64 1):=by
       rw [E.o.cell k,sM h k (by rw [H.o];omega),xB.o];rfl
      have fn:=E.o.frozen f
      have cn:wr.cell? ⟨w.heap.size+1,f,none⟩=some (.int .i64 ((h.getD f 0:Nat):Int)):=by
       rw [E.o.cell f,sM h f (by rw [H.o];omega)]
      have k1:(0:Int)≤(f:Int):=by omega
      have k2:(f:Int) < (n:Int):=by omega
      have hkk:f < k:=by omega
      clear F r S;have j1:decide ((a:Int) < (x.1.kids.length:Int))=true:=aaU (by omega);have j2:decide (a < x.1.kids.length)=true:=aaU q;go_wp2_with fail
      refine⟨⟨a+1,h.set f (1+1),by omega,by go_num,O (by rw [List.length_set];exact H.o),O (by rw [← Hf];exact E.o.d_ f _),O (C.o.far (by simp) _),O (by have h9:=y.o;rw [K.o] at h9;exact h9),O (by rw [qD,if_neg (by omega)];exact xB.o),O (u.o.set (by omega)),O (dx M.o (by simp))⟩,by simp [intOf];omega⟩
     case neg =>
      have JU:=O (show h=qy (aA xs) k D by have h9:=y.o;rw [List.drop_of_length_le (by omega)] at h9;exact h9);have j1:decide ((a:Int) < (x.1.kids.length:Int))=false:=aaV (by omega);have j2:decide (a < x.1.kids.length)=false:=aaV q;go_wp2_with fail
      refine⟨⟨k,h,by omega,by go_num,H,E,C,O (by rw [JU.o];exact HD.o),u,M⟩,by (first|(simp [intOf];done)|(simp [intOf];omega))⟩
   ·have n0:((v:Int) == 0)=false:=by simp;omega
    have hz2:=O hz;go_wp2_with fail;have I:=O (show aC wr (w.heap.size+1) 3 (iA (nD k D)) from (by unfold nD;rw [if_neg (by rw [← X.o];exact hz2.o)];exact U.o));have L:=O (show aC wr w.heap.size 26 #[.slice (some ⟨b,o,none⟩) n c,.slice B m d] from HT.o);have uE:=O (show Below w.heap.size w wr from HL.o);have Hv:=O (show (nD k D).getD k 0=v from (by unfold nD;rw [if_neg (by rw [← X.o];exact hz2.o)];exact X.o.symm));have t:=O (HA.o.nD (i:=k) (by omega));have hv1:v≤n - (k+1)+1:=by have:=t.o k;rw [Hv.o] at this;exact this
    have J:=O (xV k D);go_loopw [34] (fun j T=>∃ (a:Nat) (h:List Nat),a≤x.1.kids.length∧j=.int .i64 a∧Hid (h.length=n)∧Hid (aC T (w.heap.size+1) 3 (iA h))∧Hid (aC T w.heap.size 26 #[.slice (some ⟨b,o,none⟩) n c,.slice B m d])∧Hid (tV v (x.1.kids.drop a) h=qy (aA xs) k D)∧Hid (h.getD k 0=v)∧Hid (mE (n - k+1) h)∧Hid (Below w.heap.size w T)) (fun j _=>x.1.kids.length - (intOf j).toNat)
    case atStart=>exact⟨0,nD k D,aaL _,rfl,O (J.o.trans Lh.o),I,L,O (by rw [List.drop_zero,qy,Hv.o,yE HX.o]),Hv,O (t.o.mono (by omega)),uE⟩
    case round =>
     obtain⟨a,h,hj,rfl,H,E,C,y,xB,u,M⟩:=hrel;by_cases q:a < x.1.kids.length
     case pos =>
      obtain⟨bk,ok,rfl,Q,F⟩:=tK.o (by omega);obtain⟨G,r⟩:∃ G,x.1.kids[a]? = some G:=⟨_,aaD q⟩;have S:=HW.o k x.1 (by unfold aA;rw [List.getElem?_map,HX.o];rfl) G (aaM r);obtain⟨f,rfl⟩:∃ f:Nat,G=(f:Int):=⟨G.toNat,by omega⟩;have cj:=(M.o.cell (p:=⟨bk,ok+a,none⟩) Q).trans (F a f r)
      have K:=O (show x.1.kids.drop a=(f:Int) :: x.1.kids.drop (a+1) by
       rw [aaX q,(aaE.1 r).2])
      have ck:wr.cell? ⟨w.heap.size+1,k,none⟩=some (.int .i64 ((v:Nat):Int)):=by
       rw [E.o.cell k,sM h k (by rw [H.o];omega),xB.o]
      have fn:=E.o.frozen f
      have cn:wr.cell? ⟨w.heap.size+1,f,none⟩=some (.int .i64 ((h.getD f 0:Nat):Int)):=by
       rw [E.o.cell f,sM h f (by rw [H.o];omega)]
      have k1:(0:Int)≤(f:Int):=by omega
      have k2:(f:Int) < (n:Int):=by omega
      have hkk:f < k:=by omega
      clear F r S;have j1:decide ((a:Int) < (x.1.kids.length:Int))=true:=aaU (by omega);have j2:decide (a < x.1.kids.length)=true:=aaU q;go_wp2_with fail
      refine⟨⟨a+1,h.set f (v+1),by omega,by go_num,O (by rw [List.length_set];exact H.o),O (by rw [← Hf];exact E.o.d_ f _),O (C.o.far (by simp) _),O (by have h9:=y.o;rw [K.o] at h9;exact h9),O (by rw [qD,if_neg (by omega)];exact xB.o),O (u.o.set (by omega)),O (dx M.o (by simp))⟩,by simp [intOf];omega⟩
     case neg =>
      have JU:=O (show h=qy (aA xs) k D by have h9:=y.o;rw [List.drop_of_length_le (by omega)] at h9;exact h9);have j1:decide ((a:Int) < (x.1.kids.length:Int))=false:=aaV (by omega);have j2:decide (a < x.1.kids.length)=false:=aaV q;go_wp2_with fail
      refine⟨⟨k,h,by omega,by go_num,H,E,C,O (by rw [JU.o];exact HD.o),u,M⟩,by (first|(simp [intOf];done)|(simp [intOf];omega))⟩
end Go.Proofs.YthepmkjggfijoaaGreatDoor
