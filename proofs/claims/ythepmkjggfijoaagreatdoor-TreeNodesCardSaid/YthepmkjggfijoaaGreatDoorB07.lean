/-
  PARTS of the proof: TW, WalkNum, TP1, TV, TV2.
-/
import Derived.Lib.AtoiErrMem
import Derived.Deep.QuietTactic
import Derived.BigQuiet
import Derived.Deep.OwnRows
import Derived.Test.YthepmkjggfijoaaGreatDoorAtoi
import Derived.Test.YthepmkjggfijoaaGreatDoorB01
import Derived.Test.YthepmkjggfijoaaGreatDoorB03
import Derived.Test.YthepmkjggfijoaaGreatDoorB05
import Derived.Test.YthepmkjggfijoaaGreatDoorB06
set_option linter.all false
set_option maxRecDepth 100000
set_option maxHeartbeats 4000000
open Go.Lib (hid)
namespace Go.Proofs.YthepmkjggfijoaaGreatDoor
open Go.RowKit Mist
attribute [local go_sem] ofL_extract ofL_size ofL_get ofL_bytes ofL_append
abbrev NV:=Nd × Value
def ndCells (x:NV):List Value:=[.int .u8 x.1.kind,.string (ofL x.1.text),.int .i64 x.1.n,x.2,.int .i64 x.1.at_]
def ndRow (xs:List NV):List Value:=xs.flatMap ndCells
theorem ndRow_append (a b:List NV):ndRow (a ++ b)=ndRow a ++ ndRow b:=by simp [ndRow]
def nds (xs:List NV):List Nd:=xs.map Prod.fst
theorem nds_len (xs:List NV):(nds xs).length=xs.length:=by simp [nds]
theorem nds_append (a b:List NV):nds (a ++ b)=nds a ++ nds b:=by simp [nds]
def intCells (ks:List Int):List Value:=ks.map fun a=>Value.int .i64 a
theorem intCells_len (ks:List Int):(intCells ks).length=ks.length:=by simp [intCells]
theorem intCells_append (a b:List Int):intCells (a ++ b)=intCells a ++ intCells b:=by simp [intCells]
def KidRow (w:World) (v:Value) (ks:List Int):Prop:=w.ownsRow 0 3 1 v ks.length (intCells ks)
theorem KidRow.none_ (w:World):KidRow w (.slice none 0 0) []:=World.ownsRow_nil _ _ _ _
theorem node_info:(Tryz.prog.info? 50).map (fun i=>(i.zero,i.size,i.bytes))=some (some (.agg #[.int .u8 0,.string ByteArray.empty,.int .i64 0,.slice none 0 0,.int .i64 0]),5,64):=by kernel_rfl
theorem int_info:(Tryz.prog.info? 3).map (fun i=>(i.zero,i.size,i.bytes))=some (some (.int .i64 0),1,8):=by kernel_rfl
structure Mv (g:Nat) (row:Option Nat) (w:World) (row':Option Nat) (w':World):Prop where
 os:w'.os=w.os
 tape:w'.tape=w.tape
 output:w'.output=w.output
 size:w.heap.size≤w'.heap.size
 block:∀ b,b < w.heap.size→b ≠ g→some b ≠ row→w'.heap[b]? = w.heap[b]?
 tgt:row'=row∨∀ b,row'=some b→w.heap.size≤b
section
variable {g:Nat} {r0 r1 r2:Option Nat} {w w1 w2:World}
theorem Mv.refl:Mv g r0 w r0 w:=⟨rfl,rfl,rfl,Nat.le_refl _,fun _ _ _ _=>rfl,.inl rfl⟩
theorem Mv.trans (h:Mv g r0 w r1 w1) (k:Mv g r1 w1 r2 w2):Mv g r0 w r2 w2:=by
 refine⟨k.os.trans h.os,k.tape.trans h.tape,k.output.trans h.output,Nat.le_trans h.size k.size,fun b hb hg hr=>?_,?_⟩
 ·refine (k.block b (Nat.lt_of_lt_of_le hb h.size) hg ?_).trans (h.block b hb hg hr)
  rcases h.tgt with e | e
  ·rw [e];exact hr
  ·intro e2;have:=e b e2.symm;omega
 ·rcases k.tgt with e | e
  ·rcases h.tgt with e2 | e2
   ·exact .inl (e.trans e2)
   ·right;intro b hb;rw [e] at hb;exact e2 b hb
  ·right;intro b hb;have:=e b hb;have:=h.size;omega
theorem Mv.of_below (h:Below w.heap.size w w1):Mv g r0 w r0 w1:=⟨h.os,h.tape,h.output,h.size,fun b hb _ _=>h.block b hb,.inl rfl⟩
theorem Mv.below (h:Mv g r0 w r1 w1) (hg:g < w.heap.size) {B:Nat} (hB:B≤g) (hr:∀ b,r0=some b→B≤b):Below B w w1 :=
 ⟨h.os,h.tape,h.output,h.size,fun k hk=>h.block k (by omega) (by omega) (fun e=>by have:=hr k e.symm;omega)⟩
theorem Mv.set_ {T:TypeId} {cs:Array Value} (_h:Blk w g T cs) (i:Nat) (u:Value):Mv g r0 w r0 (w.setCell ⟨g,i,none⟩ u) :=
 ⟨rfl,rfl,rfl,by simp [World.setCell],fun b _ hg _=>Below.heap_setCell w ⟨g,i,none⟩ u b (by simpa using hg),.inl rfl⟩
theorem Mv.grown (h:w.grownBy w1 r0) (hat:r1=r0∨r1=some w.heap.size):Mv g r0 w r1 w1 :=
 ⟨h.os,h.tape,h.output,h.size,fun b hb _ hr=>h.block b hb hr,hat.imp id (fun e b hb=>by rw [e] at hb;injection hb with hb;omega)⟩
theorem Mv.alloc (o:Obj):Mv g r0 w r0 (w.alloc o):=Mv.of_below ((Below.refl _ _).alloc (Nat.le_refl _) o)
theorem Mv.drewN (n:Nat):Mv g r0 w r0 (w.drewN n):=⟨rfl,rfl,rfl,Nat.le_refl _,fun _ _ _ _=>rfl,.inl rfl⟩
theorem Mv.blk {b:Nat} {T:TypeId} {cs:Array Value} (h:Mv g r0 w r1 w1) (hb:Blk w b T cs) (hg:b ≠ g) (hr:some b ≠ r0):Blk w1 b T cs:=(h.block b hb.lt hg hr).trans hb
theorem Mv.ne (h:Mv g r0 w r1 w1) {b:Nat} (hb:b < w.heap.size) (hr:some b ≠ r0):some b ≠ r1:=by
 rcases h.tgt with e | e
 ·rw [e];exact hr
 ·intro e2;have:=e b e2.symm;omega
theorem Mv.row {base e s n:Nat} {v:Value} {xs:List Value} (h:Mv g r0 w r1 w1) (ho:w.ownsRow base e s v n xs) (hg:v.ownBlock ≠ some g) (hr:v.ownBlock=none∨v.ownBlock ≠ r0):w1.ownsRow base e s v n xs:=by
 refine⟨ho.1,?_⟩
 rcases ho.2 with h2 | ⟨b,cap,cur,rfl,hb,hh,r⟩
 ·exact .inl h2
 ·refine .inr ⟨b,cap,cur,rfl,hb,(h.block b (Array.getElem?_eq_some_iff.1 hh).1 ?_ ?_).trans hh,r⟩
  ·intro e;exact hg (by simp [Value.ownBlock,e])
  ·intro e
   rcases hr with hr | hr
   ·simp [Value.ownBlock] at hr
   ·exact hr (by simp [Value.ownBlock,← e])
theorem own_own_ne {e e':TypeId} {b b' s s' n n':Nat} {v v':Value} {xs xs':List Value} (h:w.ownsRow b e s v n xs) (h':w.ownsRow b' e' s' v' n' xs') (hne:e ≠ e'):v.ownBlock=none∨v.ownBlock ≠ v'.ownBlock:=by
 rcases h.2 with ⟨rfl,_⟩ | ⟨g,cap,cur,rfl,_,hg,_⟩
 ·left;rfl
 ·right
  rcases h'.2 with ⟨rfl,_⟩ | ⟨g',cap',cur',rfl,_,hg',_⟩
  ·simp [Value.ownBlock]
  ·intro e2
   have e2:g=g':=by simpa [Value.ownBlock] using e2
   subst e2
   exact Blk.ne_ (show Blk w g e cur from hg) (show Blk w g e' cur' from hg') hne rfl
theorem own_base {base base' e s n:Nat} {v:Value} {xs:List Value} (h:w.ownsRow base e s v n xs) (hb:∀ k,v.ownBlock=some k→base'≤k):w.ownsRow base' e s v n xs:=by
 refine⟨h.1,?_⟩
 rcases h.2 with h2 | ⟨b,cap,cur,rfl,_,r⟩
 ·exact .inl h2
 ·exact .inr ⟨b,cap,cur,rfl,hb b rfl,r⟩
end
theorem alloc_keep {w:World} {m:Nat} {o:Obj} (h:w.heap[m]? = some o) (x:Obj):(w.alloc x).heap[m]? = some o :=
 (Lib.alloc_old w x m (Array.getElem?_eq_some_iff.1 h).1).trans h
section
variable {g:Nat} {r0 r1:Option Nat} {w w1 w2:World}
theorem Mv.fset {b i:Nat} {u:Value} (h:Mv g r0 w r1 w1) (hb:w.heap.size≤b):Mv g r0 w r1 (w1.setCell ⟨b,i,none⟩ u) :=
 ⟨h.os,h.tape,h.output,by simpa [World.setCell] using h.size,fun c hc hg hr=>(Below.heap_setCell w1 ⟨b,i,none⟩ u c (by simp;omega)).trans (h.block c hc hg hr),h.tgt⟩
theorem Mv.gset {i:Nat} {u:Value} (h:Mv g r0 w r1 w1):Mv g r0 w r1 (w1.setCell ⟨g,i,none⟩ u) :=
 ⟨h.os,h.tape,h.output,by simpa [World.setCell] using h.size,fun c hc hg hr=>(Below.heap_setCell w1 ⟨g,i,none⟩ u c (by simpa using hg)).trans (h.block c hc hg hr),h.tgt⟩
theorem Mv.fbelow (h:Mv g r0 w r1 w1) (hb:Below w1.heap.size w1 w2):Mv g r0 w r1 w2:=h.trans (Mv.of_below hb)
theorem Mv.falloc {o:Obj} (h:Mv g r0 w r1 w1):Mv g r0 w r1 (w1.alloc o):=h.trans (Mv.alloc o)
theorem Mv.fdrew1 (h:Mv g r0 w r1 w1):Mv g r0 w r1 w1.drew:=h.trans (Mv.drewN 1)
end
theorem bset {B:Nat} {a w:World} {b i:Nat} {u:Value} (h:Below B a w) (hb:B≤b):Below B a (w.setCell ⟨b,i,none⟩ u):=h.setCell (p:=⟨b,i,none⟩) hb u
theorem balloc {B:Nat} {a w:World} {o:Obj} (h:Below B a w) (hB:B≤w.heap.size):Below B a (w.alloc o):=h.alloc hB o
def TokIn (w:World) (g:Nat) (tv:Value) (l:List Tok):Prop:=∃ A c,tv=.slice A l.length c∧l.length≤c∧Reads w g 3 A l.length (rowCells l)
theorem TokIn.toks {w:World} {g:Nat} {tv:Value} {l:List Tok} (h:TokIn w g tv l) (hg:g≤w.heap.size):Toks w tv l:=by
 obtain⟨A,c,rfl,hc,hr⟩:=h
 exact⟨A,c,rfl,hc,hr.more hg⟩
theorem TokIn.below {w w':World} {g:Nat} {tv:Value} {l:List Tok} (h:TokIn w g tv l) (hb:Below g w w'):TokIn w' g tv l:=by
 obtain⟨A,c,rfl,hc,hr⟩:=h
 exact⟨A,c,rfl,hc,hr.below hb⟩
end Go.Proofs.YthepmkjggfijoaaGreatDoor
namespace Go.Proofs.YthepmkjggfijoaaGreatDoor
open Go.RowKit Mist
attribute [local go_sem] ofL_extract ofL_size ofL_get ofL_bytes ofL_append
def NumPost (l:Bs) (w:World) (e:Ending) (w':World):Prop:=e=.returned (.tuple #[.int .i64 (numberOf l).1,.int .i64 (numberOf l).2])∧Below w.heap.size w w'
theorem numPost_of {l:Bs} {w w':World} {x y:Int} {p q:Nat} (h:numberOf l=(p,q)) (hx:x=p) (hy:y=q) (hb:Below w.heap.size w w'):NumPost l w (.returned (.tuple #[.int .i64 x,.int .i64 y])) w':=by
 subst hx;subst hy;exact⟨by rw [h],hb⟩
theorem atoi_any (l:Bs) (w:World) (h:kind l=2) :
  Calls Tryz.prog 231 #[.string (ofL l)] w fun e w'=>e=.returned (.tuple #[.int .i64 (numOf l),.nilIface])∧Below w.heap.size w w':=by
 obtain⟨h1,h2,h3⟩:=kind_two l h
 refine (Tryz.strconv_Atoi_ok (ofL l) (by rw [ofL_size];omega) (numOf l) (by rw [show (ofL l).data.toList=l by simp [ofL]];exact atoi_digits l h3 h1 h2) w).mono ?_
 rintro e w' ⟨rfl,hw⟩
 refine⟨rfl,?_⟩
 rcases hw with rfl | ⟨t,rfl⟩
 ·exact Below.refl _ _
 ·exact Lib.bytesWorld_below w _ t
theorem kindErr_bad2 (s:Bs) (h:kind s=0):kindErr s=4:=by unfold kindErr;rw [if_pos h]
theorem kindErr_ok (s:Bs) (h:¬ kind s=0):kindErr s=0:=by unfold kindErr;rw [if_neg h]
theorem number_any (l:Bs) (w:World) (hE:Env w) (hl:l.length≤100000000) :
  Calls Tryz.prog 221 #[.string (ofL l)] w (NumPost l w):=by
 have HE:=hid hE;clear hE
 by_cases h0:kind l=0
 ·have h1:((kindErr l:Int) != 0)=true:=by rw [kindErr_bad2 l h0];rfl
  have HN:=hid (numberOf_no l (by omega));clear h0
  go_enter Tryz.func221,Tryz.ntmps221
  go_wp2_with (go_at_call 165;refine (kind_any l _ HE.out hl).mono ?_;rintro e w1 ⟨rfl,hb1⟩)
  go_ret2
  exact numPost_of HN.out rfl rfl hb1
 have h1:((kindErr l:Int) != 0)=false:=by rw [kindErr_ok l h0];rfl
 by_cases h2:kind l=2
 ·have h3:((kind l:Int) != 2)=false:=by simp;omega
  have HN:=hid (numberOf_yes l h2)
  have HK:=hid h2
  clear h0 h2
  go_enter Tryz.func221,Tryz.ntmps221
  go_wp2_with (first
   | (go_at_call 165;refine (kind_any l _ HE.out hl).mono ?_;rintro e w1 ⟨rfl,hb1⟩)
   | (go_at_call 231;refine (atoi_any l _ HK.out).mono ?_;rintro e w2 ⟨rfl,hb2⟩))
  go_ret2
  exact numPost_of HN.out rfl rfl (hb1.trans (hb2.mono hb1.size))
 ·have h3:((kind l:Int) != 2)=true:=by simp;omega
  have HN:=hid (numberOf_no l h2);clear h0 h2
  go_enter Tryz.func221,Tryz.ntmps221
  go_wp2_with (go_at_call 165;refine (kind_any l _ HE.out hl).mono ?_;rintro e w1 ⟨rfl,hb1⟩)
  go_ret2
  exact numPost_of HN.out rfl rfl hb1
theorem rnumber_any (l:Bs) (w:World) (hl:l.length≤100000000) :
  Calls Tryz.prog 191 #[.string (ofL l)] w (NumPost l w):=by
 by_cases h0:kind l=0
 ·have h1:((kindErr l:Int) != 0)=true:=by rw [kindErr_bad2 l h0];rfl
  have HN:=hid (numberOf_no l (by omega));clear h0
  go_enter Tryz.func191,Tryz.ntmps191
  go_wp2_with (go_at_call 194;refine (rkind_any l _ hl).mono ?_;rintro e w1 ⟨rfl,hb1⟩)
  go_ret2
  exact numPost_of HN.out rfl rfl hb1
 have h1:((kindErr l:Int) != 0)=false:=by rw [kindErr_ok l h0];rfl
 by_cases h2:kind l=2
 case neg =>
  have h3:((kind l:Int) != 2)=true:=by simp;omega
  have HN:=hid (numberOf_no l h2);clear h0 h2
  go_enter Tryz.func191,Tryz.ntmps191
  go_wp2_with (go_at_call 194;refine (rkind_any l _ hl).mono ?_;rintro e w1 ⟨rfl,hb1⟩)
  go_ret2
  exact numPost_of HN.out rfl rfl hb1
 have h3:((kind l:Int) != 2)=false:=by simp;omega
 have HN:=hid (numberOf_yes l h2)
 obtain⟨h4,h5,h6⟩:=kind_two l h2
 have HD:=hid h6
 clear h0 h2 h6
 go_enter Tryz.func191,Tryz.ntmps191
 go_wp2_with (go_at_call 194;refine (rkind_any l _ hl).mono ?_;rintro e w1 ⟨rfl,hb1⟩)
 have HB:=hid hb1;clear hb1
 go_loopw [6,7] (fun s i wr=>∃ n:Nat,n≤l.length∧i=.int .i64 n∧s=.int .i64 (numOf (l.take n))∧wr=w1) (fun _ i _=>l.length - (intOf i).toNat)
 case atStart=>exact⟨0,Nat.zero_le _,rfl,by simp [numOf,digits],rfl⟩
 case round =>
  obtain⟨n,hn,rfl,rfl,rfl⟩:=hrel
  have hlt2:=numOf_lt (l.take n) (fun c hc=>HD.out c (List.mem_of_mem_take hc)) (by simp;omega)
  by_cases hlt:n < l.length
  ·have hstep:=numOf_take l n hlt
   obtain⟨hd1,hd2⟩:=digit_le _ (HD.out _ (gt_mem l n hlt))
   go_wp2
   exact⟨⟨n+1,by omega,by go_num,by rw [hstep];go_num,by first | rfl | trivial⟩,by simp [intOf];omega⟩
  ·have e:l.take n=l:=List.take_of_length_le (by omega)
   rw [e] at hlt2 ⊢
   go_wp2
   go_ret2
   exact numPost_of HN.out rfl rfl HB.out
end Go.Proofs.YthepmkjggfijoaaGreatDoor
namespace Go.Proofs.YthepmkjggfijoaaGreatDoor
open Go.RowKit Mist
attribute [local go_sem] ofL_extract ofL_size ofL_get ofL_bytes ofL_append
structure PS (g:Nat) (tv:Value) (l:List Tok) (en:Int) (iv:Value) (w:World) (k:Nat) (xs:List NV) (nv:Value):Prop where
 blk:Blk w g 107 #[tv,.int .i64 en,.int .i64 k,nv,iv]
 own:w.ownsRow g 50 5 nv xs.length (ndRow xs)
 kids:∀ x ∈ xs,KidRow w x.2 x.1.kids
 toks:TokIn w g tv l
 env : Lib.TabBelow Tryz.prog g w "strings.asciiSpace" IntKind.u8 Lib.asciiSpaceTab
theorem tab_below {g : Nat} {w w' : World} (h : Lib.TabBelow Tryz.prog g w "strings.asciiSpace" IntKind.u8 Lib.asciiSpaceTab) (hb : Below g w w') : Lib.TabBelow Tryz.prog g w' "strings.asciiSpace" IntKind.u8 Lib.asciiSpaceTab := fun w'' hb' => h w'' (hb.trans hb')
section
variable {g:Nat} {tv:Value} {l:List Tok} {en:Int} {iv:Value} {w w':World} {k:Nat} {xs:List NV} {nv:Value}
theorem PS.lt (h:PS g tv l en iv w k xs nv):g < w.heap.size:=h.blk.lt
theorem PS.row_le (h:PS g tv l en iv w k xs nv):∀ b,nv.ownBlock=some b→g≤b:=fun b hb=>(h.own.lt b hb).1
theorem PS.row_lt (h:PS g tv l en iv w k xs nv):∀ b,nv.ownBlock=some b→b < w.heap.size:=fun b hb=>(h.own.lt b hb).2
theorem PS.low (h:PS g tv l en iv w k xs nv) {row:Option Nat} (m:Mv g nv.ownBlock w row w'):Below g w w':=m.below h.lt (Nat.le_refl _) h.row_le
theorem PS.kid_mv (h:PS g tv l en iv w k xs nv) {row:Option Nat} (m:Mv g nv.ownBlock w row w') {v:Value} {ks:List Int} (hk:KidRow w v ks):KidRow w' v ks :=
 m.row hk (own_blk_ne hk h.blk (by decide)) (own_own_ne hk h.own (by decide))
theorem PS.below (h:PS g tv l en iv w k xs nv) (hb:Below w.heap.size w w'):PS g tv l en iv w' k xs nv :=
 ⟨h.blk.below hb h.lt,own_below h.own hb,fun x hx=>own_below (h.kids x hx) hb,h.toks.below (hb.mono (Nat.le_of_lt h.lt)),tab_below h.env (hb.mono (Nat.le_of_lt h.lt))⟩
theorem PS.envw (h:PS g tv l en iv w k xs nv):Env w:=⟨g,Nat.le_of_lt h.lt,h.env⟩
theorem PS.step (h:PS g tv l en iv w k xs nv):PS g tv l en iv (w.setCell ⟨g,2,none⟩ (.int .i64 ((k:Int)+1))) (k+1) xs nv :=
 have m:Mv g nv.ownBlock w nv.ownBlock _:=Mv.set_ h.blk 2 (.int .i64 ((k:Int)+1))
 ⟨(by have:=h.blk.set_ 2 (.int .i64 ((k:Int)+1));simpa using this),ownsRow_setCell_other h.own (own_blk_ne h.own h.blk (by decide)) _,fun x hx=>h.kid_mv m (h.kids x hx),h.toks.below (h.low m),tab_below h.env (h.low m)⟩
theorem PS.add (h:PS g tv l en iv w k xs nv) {w1:World} {nv':Value} {x:NV} (hg:w.grownBy w1 nv.ownBlock) (hown:w1.ownsRow g 50 5 nv' (xs.length+1) (ndRow xs ++ ndCells x)) (hk:KidRow w x.2 x.1.kids):PS g tv l en iv (w1.setCell ⟨g,3,none⟩ nv') k (xs ++ [x]) nv':=by
 have hb:=h.blk.grown hg (fun e=>own_blk_ne h.own h.blk (by decide) e.symm)
 have keep:∀ {v:Value} {cs:List Int},KidRow w v cs→KidRow (w1.setCell ⟨g,3,none⟩ nv') v cs:=fun hk =>
  ownsRow_setCell_other (hk.kept hg (own_own_ne hk h.own (by decide))) (own_blk_ne (hk.kept hg (own_own_ne hk h.own (by decide))) hb (by decide)) _
 have hl:Below g w (w1.setCell ⟨g,3,none⟩ nv'):=bset ((Below.refl _ _).grown hg (Nat.le_of_lt h.lt) h.row_le) (Nat.le_refl _)
 refine⟨?_,?_,fun y hy=>?_,h.toks.below hl,tab_below h.env hl⟩
 ·have:=hb.set_ 3 nv';simpa using this
 ·rw [List.length_append,ndRow_append]
  have e:ndRow [x]=ndCells x:=by simp [ndRow]
  rw [e]
  exact ownsRow_setCell_other hown (own_blk_ne hown hb (by decide)) _
 ·rcases List.mem_append.1 hy with hy | hy
  ·exact keep (h.kids y hy)
  ·rw [List.mem_singleton.1 hy];exact keep hk
structure Far (g:Nat) (nv:Value) (xs:List NV) (b:Nat):Prop where
 lt:g < b
 row:nv.ownBlock ≠ some b
 kids:∀ x ∈ xs,x.2.ownBlock ≠ some b
theorem PS.new (h:PS g tv l en iv w k xs nv) {b:Nat} (hb:w.heap.size≤b):Far g nv xs b :=
 ⟨Nat.lt_of_lt_of_le h.lt hb,fun e=>by have:=h.row_lt b e;omega,fun x hx e=>by have:=(World.ownsRow.lt (h.kids x hx) b e).2;omega⟩
theorem PS.far (h:PS g tv l en iv w k xs nv) {b:Nat} (f:Far g nv xs b) (i:Nat) (u:Value):PS g tv l en iv (w.setCell ⟨b,i,none⟩ u) k xs nv :=
 ⟨h.blk.far (p:=⟨b,i,none⟩) (Nat.ne_of_lt f.lt) u,ownsRow_setCell_other h.own f.row u,fun x hx=>ownsRow_setCell_other (h.kids x hx) (f.kids x hx) u,h.toks.below (bset (Below.refl _ _) (Nat.le_of_lt f.lt)),tab_below h.env (bset (Below.refl _ _) (Nat.le_of_lt f.lt))⟩
theorem PS.alloc (h:PS g tv l en iv w k xs nv) (o:Obj):PS g tv l en iv (w.alloc o) k xs nv:=h.below ((Below.refl _ _).alloc (Nat.le_refl _) o)
theorem PS.drew (h:PS g tv l en iv w k xs nv):PS g tv l en iv w.drew k xs nv:=h.below (Below.drew (Below.refl _ _))
theorem PS.drewN (h:PS g tv l en iv w k xs nv) (n:Nat):PS g tv l en iv (w.drewN n) k xs nv:=h.below (bdrewN (Below.refl _ _) n)
end
theorem look_any (g:Nat) (tv:Value) (l:List Tok) (en:Int) (iv:Value) (w:World) (k:Nat) (xs:List NV) (nv:Value) (h:PS g tv l en iv w k xs nv) (hk:k≤l.length) (hl:l.length≤1000) :
  Calls Tryz.prog 136 #[.pointer (some ⟨g,0,none⟩)] w fun e w'=>e=.returned (.agg #[.int .u8 (tg l k).kind,.string (ofL (tx l k)),.int .i64 (pl l en k)])∧Below w.heap.size w w':=by
 have c0:=h.blk.cell 0
 have c1:=h.blk.cell 1
 have c2:=h.blk.cell 2
 have hlt:=h.lt
 obtain⟨A,c,rfl,hlc,hr⟩:=h.toks
 have HT:=hid (show Toks w (.slice A l.length c) l from ⟨A,c,rfl,hlc,hr.more (Nat.le_of_lt hlt)⟩)
 clear hr h
 by_cases hkl:k < l.length
 ·obtain⟨b,o,rfl,hr⟩:=HT.out.rowA (by omega)
  have t0:=hr.kind k hkl
  have t1:=hr.text k hkl
  have t2:=hr.at_ k hkl
  have hbl:=hr.lt
  have HR:=hid hr;clear hr
  have q0:((k:Int) == (l.length:Int))=false:=by simp;omega
  have q1:(0:Int)≤(k:Int):=by omega
  have q2:(k:Int) < (l.length:Int):=by omega
  have HP:=hid (show pl l en k=(tg l k).at_ by unfold pl;rw [if_pos hkl])
  go_enter Tryz.func136,Tryz.ntmps136
  go_wp2_with fail
  go_quiet (fail)
  go_wp2_with fail
  go_region
  all_goals
   go_wp2
   refine bodyPost_ret (v:=.agg #[.int .u8 (tg l k).kind,.string (ofL (tg l k).text),.int .i64 (tg l k).at_]) (by simp [results,Tryz.f136,go_sem]) rfl ?_
   refine⟨by rw [HP.out];rfl,?_⟩
   repeat (first | exact Below.refl _ _ | refine bset ?_ (Nat.le_refl _) | refine bdrewN ?_ _ | refine balloc ?_ (Nat.le_refl _))
 ·obtain rfl:k=l.length:=by omega
  have HG:=hid (tg_past l l.length (Nat.le_refl _))
  have HP:=hid (show pl l en l.length=en by unfold pl;rw [if_neg (by omega)])
  go_enter Tryz.func136,Tryz.ntmps136
  go_wp2_with fail
  go_quiet (fail)
  go_wp2_with fail
  refine bodyPost_ret (v:=.agg #[.int .u8 0,.string (ofL []),.int .i64 en]) (by simp [results,Tryz.f136,go_sem];rfl) rfl ?_
  refine⟨by rw [HP.out];unfold tx;rw [HG.out];rfl,?_⟩
  repeat (first | exact Below.refl _ _ | refine bset ?_ (Nat.le_refl _) | refine bdrewN ?_ _ | refine balloc ?_ (Nat.le_refl _))
theorem tok_field0 (a b c:Value) (w:World):(Instr.field 68 (.agg #[a,b,c]) 0).run Tryz.prog w=.ok a w:=by kernel_rfl
theorem tok_field1 (a b c:Value) (w:World):(Instr.field 68 (.agg #[a,b,c]) 1).run Tryz.prog w=.ok b w:=by kernel_rfl
theorem tok_field2 (a b c:Value) (w:World):(Instr.field 68 (.agg #[a,b,c]) 2).run Tryz.prog w=.ok c w:=by kernel_rfl
theorem fail_any (g:Nat) (tv:Value) (l:List Tok) (en:Int) (iv:Value) (w:World) (k:Nat) (xs:List NV) (nv:Value) (h:PS g tv l en iv w k xs nv) (hk:k≤l.length) (hl:l.length≤1000) :
  Calls Tryz.prog 137 #[.pointer (some ⟨g,0,none⟩)] w fun e w'=>e=.panicked [{ v:=.iface 109 (.agg #[.int .i64 (pl l en k)]),recovered:=false }]∧Below w.heap.size w w':=by
 have H:=hid h;clear h
 have f2:=tok_field2
 go_enter Tryz.func137,Tryz.ntmps137
 go_wp2_with fail
 refine (look_any g tv l en iv _ k xs nv H.out hk hl).mono ?_
 rintro e w1 ⟨rfl,hb⟩
 have HB:=hid hb;clear hb
 go_wp2_with fail
 exact⟨rfl,rfl,HB.out⟩
theorem contains_one (x y:Bs) (b c T:Nat) (fr:Nat × Nat) (w:World) (hb:w.heap[b]? = some (.cells (strRow [x]) T fr)) (r:Bool) (hr:decide (y=x)=r) :
  Calls Tryz.prog 129 #[.slice (some ⟨b,0,none⟩) 1 c,.string (ofL y)] w fun e w'=>e=.returned (.bool r)∧w=w':=by
 refine (contains_any [x] y b c 1 T fr w hb (by simp) rfl).mono ?_
 rintro e w' ⟨rfl,rfl⟩
 refine⟨?_,rfl⟩
 rw [← hr]
 congr 2
 by_cases h:y=x
 ·subst h;simp [hasB]
 ·simp [hasB,h]
theorem is_any (x:Bs) (hx:Mist.kind x=3∨Mist.kind x=4) (g:Nat) (tv:Value) (l:List Tok) (en:Int) (iv:Value) (w:World) (k:Nat) (xs:List NV) (nv:Value) (h:PS g tv l en iv w k xs nv) (hk:k≤l.length) (hl:l.length≤1000) (hK:∀ t ∈ l,Mist.kind t.text=t.kind)
  (b c T:Nat) (fr:Nat × Nat) (hb:w.heap[b]? = some (.cells (strRow [x]) T fr)) (r:Bool) (hr:decide (tx l k=x)=r) :
  Calls Tryz.prog 189 #[.pointer (some ⟨g,0,none⟩),.slice (some ⟨b,0,none⟩) 1 c] w fun e w'=>e=.returned (.bool r)∧Below w.heap.size w w':=by
 have hbl:b < w.heap.size:=(Array.getElem?_eq_some_iff.1 hb).1
 have H:=hid h;clear h
 have HB:=hid hb;clear hb
 have HR:=hid hr;clear hr
 have HKK:=hid (show tx l k=x→(tg l k).kind=Mist.kind x by
  intro e
  have hkl:k < l.length:=by
   rcases Nat.lt_or_ge k l.length with h1 | h1
   ·exact h1
   ·exfalso
    rw [tx,tg_past l k h1] at e
    rw [← e] at hx
    exact absurd hx (by decide)
  rw [← hK _ (tg_mem l k hkl),show (tg l k).text=x from e])
 clear hK
 have f0:=tok_field0
 have fin:∀ (w1 w2:World) (cs:Array Value),Below w.heap.size w w1→(w1.alloc (.cells cs 68)).heap[b]? = some (.cells (strRow [x]) T fr):=fun w1 w2 cs hb=>alloc_keep ((hb.block b hbl).trans HB.out) _
 have FIN:=hid fin;clear fin
 by_cases h3:(tg l k).kind=3
 ·have b3:(((tg l k).kind:Int) == 3)=true:=by simp [h3]
  clear h3
  go_enter Tryz.func189,Tryz.ntmps189
  go_wp2_with fail
  refine (look_any g tv l en iv _ k xs nv H.out hk hl).mono ?_
  rintro e w1 ⟨rfl,hb⟩
  have HB1:=hid hb;clear hb
  go_wp2_with fail
  refine (contains_one x _ b c T fr _ (FIN.out _ w1 _ HB1.out) r HR.out).mono ?_
  rintro e w2 ⟨rfl,rfl⟩
  go_wp2_with fail
  go_ret
  exact⟨rfl,balloc HB1.out HB1.out.size⟩
 ·by_cases h4:(tg l k).kind=4
  ·have b3:(((tg l k).kind:Int) == 3)=false:=by simp [h4]
   have b4:(((tg l k).kind:Int) == 4)=true:=by simp [h4]
   clear h3 h4
   go_enter Tryz.func189,Tryz.ntmps189
   go_wp2_with fail
   refine (look_any g tv l en iv _ k xs nv H.out hk hl).mono ?_
   rintro e w1 ⟨rfl,hb⟩
   have HB1:=hid hb;clear hb
   go_wp2_with fail
   refine (contains_one x _ b c T fr _ (FIN.out _ w1 _ HB1.out) r HR.out).mono ?_
   rintro e w2 ⟨rfl,rfl⟩
   go_wp2_with fail
   go_ret
   exact⟨rfl,balloc HB1.out HB1.out.size⟩
  ·have b3:(((tg l k).kind:Int) == 3)=false:=by simp;omega
   have b4:(((tg l k).kind:Int) == 4)=false:=by simp;omega
   have hrf:r=false:=by
    rw [← HR.out,decide_eq_false_iff_not]
    intro e
    have:=HKK.out e
    omega
   subst hrf
   clear h3 h4
   go_enter Tryz.func189,Tryz.ntmps189
   go_wp2_with fail
   refine (look_any g tv l en iv _ k xs nv H.out hk hl).mono ?_
   rintro e w1 ⟨rfl,hb⟩
   have HB1:=hid hb;clear hb
   go_wp2_with fail
   go_ret
   exact⟨rfl,balloc HB1.out HB1.out.size⟩
def TokAt (l:List Tok) (en:Int) (k:Nat):Value:=.agg #[.int .u8 (tg l k).kind,.string (ofL (tx l k)),.int .i64 (pl l en k)]
theorem take_any (g:Nat) (tv:Value) (l:List Tok) (en:Int) (iv:Value) (w:World) (k:Nat) (xs:List NV) (nv:Value) (h:PS g tv l en iv w k xs nv) (hk:k≤l.length) (hl:l.length≤1000) :
  Calls Tryz.prog 138 #[.pointer (some ⟨g,0,none⟩)] w fun e w'=>e=.returned (.agg #[.int .u8 (tg l k).kind,.string (ofL (tx l k)),.int .i64 (pl l en k)])∧PS g tv l en iv w' (k+1) xs nv∧Mv g nv.ownBlock w nv.ownBlock w':=by
 have H:=hid h;clear h
 have FF:=hid (H.out.new (Nat.le_refl _))
 have bR:=Blk.new w 68 #[.int .u8 0,.string ⟨#[]⟩,.int .i64 0]
 have hne:¬ w.heap.size=g:=by have:=H.out.lt;omega
 go_enter Tryz.func138,Tryz.ntmps138
 go_wp2_with fail
 refine (look_any g tv l en iv _ k xs nv (H.out.alloc _) hk hl).mono ?_
 rintro e w1 ⟨rfl,hb⟩
 have bR1:=bR.below hb (by simp)
 have HM:=hid (((Mv.refl (g:=g) (r0:=nv.ownBlock) (w:=w)).falloc (o:=.cells #[.int .u8 0,.string ⟨#[]⟩,.int .i64 0] 68)).fbelow hb)
 have H1:=hid ((H.out.alloc (.cells #[.int .u8 0,.string ⟨#[]⟩,.int .i64 0] 68)).below hb)
 clear hb bR
 have c2:=H1.out.blk.cell 2
 have f2:=H1.out.blk.frozen 2
 have hlt:=H1.out.lt
 have hlw:=bR1.lt
 have r0:=bR1.cell 0
 have r1:=bR1.cell 1
 have r2:=bR1.cell 2
 have z0:=bR1.frozen 0
 have z1:=bR1.frozen 1
 have z2:=bR1.frozen 2
 clear bR1
 go_wp2_with fail
 refine bodyPost_ret (v:=TokAt l en k) (by simp [results,go_sem,TokAt,r0,r1,r2,hlw]) rfl ?_
 exact⟨rfl,by (repeat (first | exact H1.out.step | refine PS.alloc ?_ _ | refine PS.far ?_ FF.out _ _)),by (repeat (first | exact HM.out | refine Mv.fset ?_ (Nat.le_refl _) | refine Mv.falloc ?_ | refine Mv.gset ?_))⟩
end Go.Proofs.YthepmkjggfijoaaGreatDoor
namespace Go.Proofs.YthepmkjggfijoaaGreatDoor
open Go.RowKit Mist
def iA (D:List Nat):Array Value:=(D.map fun (d:Nat)=>Value.int .i64 (d:Int)).toArray
theorem iA_set (D:List Nat) (j v:Nat):(iA D).setIfInBounds j (.int .i64 (v:Int))=iA (D.set j v):=by
 unfold iA;rw [List.setIfInBounds_toArray,List.map_set]
theorem iA_get (D:List Nat) (j:Nat) (h:j < D.length):(iA D)[j]? = some (.int .i64 ((D.getD j 0:Nat):Int)):=by
 unfold iA
 rw [List.getElem?_toArray,List.getElem?_map,List.getElem?_eq_getElem h]
 simp [List.getD_eq_getElem?_getD,List.getElem?_eq_getElem h]
def dKids (v:Nat):List Int→List Nat→List Nat
 | [],D=>D
 | k :: r,D=>dKids v r (D.set k.toNat (v+1))
def dOne (i:Nat) (D:List Nat):List Nat:=if D.getD i 0=0 then D.set i 1 else D
def dStep (ns:List Nd) (i:Nat) (D:List Nat):List Nat:=dKids ((dOne i D).getD i 0) ((ns[i]?.map Nd.kids).getD []) (dOne i D)
def dRun (ns:List Nd):Nat→List Nat→List Nat
 | 0,D=>D
 | i+1,D=>dRun ns i (dStep ns i D)
def depthsOf (ns:List Nd):List Nat:=dRun ns ns.length (List.replicate ns.length 0)
theorem dKids_len (v:Nat):∀ (ks:List Int) (D:List Nat),(dKids v ks D).length=D.length
 | [],_=>rfl
 | k :: r,D=>by rw [dKids,dKids_len v r,List.length_set]
theorem dOne_len (i:Nat) (D:List Nat):(dOne i D).length=D.length:=by unfold dOne;split <;> simp
theorem dStep_len (ns:List Nd) (i:Nat) (D:List Nat):(dStep ns i D).length=D.length:=by rw [dStep,dKids_len,dOne_len]
theorem dRun_len (ns:List Nd):∀ (i:Nat) (D:List Nat),(dRun ns i D).length=D.length
 | 0,_=>rfl
 | i+1,D=>by rw [dRun,dRun_len ns i,dStep_len]
theorem getD_set (D:List Nat) (i j v:Nat):(D.set i v).getD j 0=if i=j∧j < D.length then v else D.getD j 0:=by
 simp only [List.getD_eq_getElem?_getD,List.getElem?_set]
 by_cases h:i=j
 ·subst h
  by_cases h2:i < D.length
  ·simp [h2]
  ·simp [h2]
 ·simp [h]
def AllLe (b:Nat) (D:List Nat):Prop:=∀ j,D.getD j 0≤b
theorem AllLe.set {b v i:Nat} {D:List Nat} (h:AllLe b D) (hv:v≤b):AllLe b (D.set i v):=fun j=>by
 rw [getD_set];split
 ·exact hv
 ·exact h j
theorem AllLe.mono {a b:Nat} {D:List Nat} (h:AllLe a D) (hab:a≤b):AllLe b D:=fun j=>Nat.le_trans (h j) hab
theorem AllLe.dKids {b v:Nat} (hv:v+1≤b):∀ (ks:List Int) {D:List Nat},AllLe b D→AllLe b (dKids v ks D)
 | [],_,h=>h
 | _ :: r,_,h=>AllLe.dKids hv r (h.set hv)
theorem AllLe.dOne {b i:Nat} {D:List Nat} (h:AllLe b D) (hb:1≤b):AllLe b (dOne i D):=by
 unfold Go.Proofs.YthepmkjggfijoaaGreatDoor.dOne;split
 ·exact h.set hb
 ·exact h
theorem AllLe.dStep {b i:Nat} {ns:List Nd} {D:List Nat} (h:AllLe b D) (hb:1≤b):AllLe (b+1) (dStep ns i D) :=
 AllLe.dKids (Nat.succ_le_succ (h.dOne hb i)) _ ((h.dOne hb).mono (Nat.le_succ _))
theorem allLe_zero (n b:Nat):AllLe b (List.replicate n 0):=fun j=>by
 rw [List.getD_eq_getElem?_getD,List.getElem?_replicate];split <;> simp
end Go.Proofs.YthepmkjggfijoaaGreatDoor
namespace Go.Proofs.YthepmkjggfijoaaGreatDoor
open Go.RowKit Mist
structure KidsAt (w:World) (b o:Nat) (xs:List NV):Prop where
 lt:b < w.heap.size
 kv:∀ (i:Nat) x,xs[i]? = some x→w.cell? ⟨b,o+i * 5+3,none⟩=some x.2
 kids:∀ x ∈ xs,∃ A c,x.2=.slice A x.1.kids.length c∧x.1.kids.length≤1000000∧(0 < x.1.kids.length→∃ bk ok,A=some ⟨bk,ok,none⟩∧bk < w.heap.size∧∀ (j:Nat) k,x.1.kids[j]? = some k→w.cell? ⟨bk,ok+j,none⟩=some (.int .i64 k))
theorem KidsAt.below {w w':World} {b o:Nat} {xs:List NV} (h:KidsAt w b o xs) (hb:Below w.heap.size w w'):KidsAt w' b o xs :=
 ⟨Nat.lt_of_lt_of_le h.lt hb.size,fun i x hx=>(hb.cell (by exact h.lt)).trans (h.kv i x hx),fun x hx=>by
  obtain⟨A,c,h1,h3,h2⟩:=h.kids x hx
  refine⟨A,c,h1,h3,fun h0=>?_⟩
  obtain⟨bk,ok,e,hl,hc⟩:=h2 h0
  exact⟨bk,ok,e,Nat.lt_of_lt_of_le hl hb.size,fun j k hk=>(hb.cell (by exact hl)).trans (hc j k hk)⟩⟩
theorem nds_kids {xs:List NV} {i:Nat} {x:NV} (h:xs[i]? = some x):(((nds xs)[i]?).map Nd.kids).getD []=x.1.kids:=by
 unfold nds;rw [List.getElem?_map,h];rfl
theorem made_zero (n:Nat):madeCells #[.int .i64 0] n=iA (List.replicate n 0):=by
 unfold madeCells iA
 apply Array.ext
 ·simp
 ·intro i h1 h2
  simp [Nat.mod_one]
theorem depths_any (b o c m d:Nat) (B:Option Addr) (xs:List NV) (w:World) (hN:KidsAt w b o xs) (hW:Wf (nds xs)) (hn:xs.length≤100000) :
  Calls Tryz.prog 95 #[.agg #[.slice (some ⟨b,o,none⟩) xs.length c,.slice B m d]] w fun e w'=>∃ g,e=.returned (.slice (some ⟨g,0,none⟩) xs.length xs.length)∧w.heap.size≤g∧Blk w' g 3 (iA (depthsOf (nds xs)))∧Below w.heap.size w w':=by
 obtain⟨n,hnn⟩:∃ n,n=xs.length:=⟨_,rfl⟩
 rw [← hnn] at hn ⊢
 have HNN:=hid hnn;clear hnn
 have HN:=hid hN;clear hN
 have HW:=hid hW;clear hW
 have hmk:=run_make_row' (P:=Tryz.prog) 24 3 (.int .i64 0) 8 Tryz.underlying24 int_info rfl .i64 .i64 n (by omega) (by omega) (w.alloc (.cells #[.slice (some ⟨b,o,none⟩) n c,.slice B m d] 26))
 rw [made_zero] at hmk
 go_enter Tryz.func95,Tryz.ntmps95
 go_wp2_with fail
 have hb0:=Blk.new (w.alloc (.cells #[.slice (some ⟨b,o,none⟩) n c,.slice B m d] 26)) 3 (iA (List.replicate n 0))
 rw [show (w.alloc (.cells #[.slice (some ⟨b,o,none⟩) n c,.slice B m d] 26)).heap.size=w.heap.size+1 by simp] at hb0
 have HB0:=hid hb0;clear hb0
 have HT0:=hid ((Blk.new w 26 #[.slice (some ⟨b,o,none⟩) n c,.slice B m d]).alloc (.cells (iA (List.replicate n 0)) 3))
 have HL0:=hid (balloc (balloc (Below.refl w.heap.size w) (Nat.le_refl _) (o:=.cells #[.slice (some ⟨b,o,none⟩) n c,.slice B m d] 26)) (by simp) (o:=.cells (iA (List.replicate n 0)) 3))
 clear hmk
 go_loopw [4] (fun i wr=>∃ (k:Nat) (D:List Nat),k≤n∧i=.int .i64 ((k:Int) - 1)∧Hid (D.length=n)∧Hid (Blk wr (w.heap.size+1) 3 (iA D))∧Hid (Blk wr w.heap.size 26 #[.slice (some ⟨b,o,none⟩) n c,.slice B m d])∧Hid (dRun (nds xs) k D=depthsOf (nds xs))∧Hid (AllLe (n - k+1) D)∧Hid (Below w.heap.size w wr)) (fun i _=>(intOf i+1).toNat)
 case atStart=>exact⟨n,List.replicate n 0,Nat.le_refl _,rfl,hid (by simp),HB0,HT0,hid (by unfold depthsOf;rw [nds_len,← HNN.out]),hid (allLe_zero _ _),HL0⟩
 case round =>
  clear HB0 HT0 HL0
  obtain⟨k,D,hk,rfl,HDL,HB,HT,HD,HA,HL⟩:=hrel
  rcases Nat.eq_zero_or_pos k with h0 | h0
  ·subst h0
   have HD2:=hid (show D=depthsOf (nds xs) from HD.out)
   go_wp2_with fail
   go_ret
   exact⟨_,rfl,by omega,by rw [← HD2.out];exact HB.out,HL.out⟩
  ·obtain⟨k,rfl⟩:∃ k0,k=k0+1:=⟨k - 1,by omega⟩
   rw [show (((k+1:Nat):Int) - 1)=(k:Int) by omega]
   have tc0:=HT.out.cell 0
   have tc1:=HT.out.cell 1
   have dk:wr.cell? ⟨w.heap.size+1,k,none⟩=some (.int .i64 ((D.getD k 0:Nat):Int)):=by
    rw [HB.out.cell k];exact iA_get D k (by rw [HDL.out];omega)
   have fk:=HB.out.frozen k
   have i1:(0:Int)≤(k:Int):=by omega
   have i2:(k:Int) < (n:Int):=by omega
   obtain⟨v,hv⟩:∃ v,v=D.getD k 0:=⟨_,rfl⟩
   rw [← hv] at dk
   have HV:=hid hv;clear hv
   obtain⟨x,hx⟩:∃ x,xs[k]? = some x:=⟨_,List.getElem?_eq_getElem (by rw [← HNN.out];omega)⟩
   have HX:=hid hx
   have HK:=hid (HN.out.below HL.out)
   have kc:=HK.out.kv k x hx
   obtain⟨A,ca,hxe,hxl,hxk⟩:=HN.out.kids x (List.mem_of_getElem? hx)
   rw [hxe] at kc
   have HXK:=hid hxk
   clear hx hxe hxk
   have hbl:=HN.out.lt
   by_cases hz:v=0
   ·subst hz
    have n0:(((0:Nat):Int) == 0)=true:=rfl
    go_wp2_with fail
    have HB1:=hid (show Blk (wr.setCell ⟨w.heap.size+1,k,none⟩ (.int .i64 1)) (w.heap.size+1) 3 (iA (dOne k D)) from (by unfold dOne;rw [if_pos HV.out.symm,← iA_set];exact HB.out.set_ k _))
    have HT1:=hid (show Blk (wr.setCell ⟨w.heap.size+1,k,none⟩ (.int .i64 1)) w.heap.size 26 #[.slice (some ⟨b,o,none⟩) n c,.slice B m d] from HT.out.far (by simp) _)
    have HL1:=hid (show Below w.heap.size w (wr.setCell ⟨w.heap.size+1,k,none⟩ (.int .i64 1)) from bset HL.out (by simp))
    have H1:=hid (show (dOne k D).getD k 0=1 from (by unfold dOne;rw [if_pos HV.out.symm,getD_set,if_pos ⟨rfl,by rw [HDL.out];omega⟩]))
    have HA1:=hid (HA.out.dOne (i:=k) (by omega))
    have hv1:1≤n - (k+1)+1:=by have:=HA1.out k;rw [H1.out] at this;exact this
    have HD1:=hid (dOne_len k D)
    go_loopw [34] (fun j wr_1=>∃ (jn:Nat) (D':List Nat),jn≤x.1.kids.length∧j=.int .i64 jn∧Hid (D'.length=n)∧Hid (Blk wr_1 (w.heap.size+1) 3 (iA D'))∧Hid (Blk wr_1 w.heap.size 26 #[.slice (some ⟨b,o,none⟩) n c,.slice B m d])∧Hid (dKids 1 (x.1.kids.drop jn) D'=dStep (nds xs) k D)∧Hid (D'.getD k 0=1)∧Hid (AllLe (n - k+1) D')∧Hid (Below w.heap.size w wr_1)) (fun j _=>x.1.kids.length - (intOf j).toNat)
    case atStart=>exact⟨0,dOne k D,Nat.zero_le _,rfl,hid (HD1.out.trans HDL.out),HB1,HT1,hid (by rw [List.drop_zero,dStep,H1.out,nds_kids HX.out]),H1,hid (HA1.out.mono (by omega)),HL1⟩
    case round =>
     obtain⟨jn,D',hj,rfl,HDLj,HBj,HTj,HDK,HVV,HAA,HLL⟩:=hrel
     by_cases hjl:jn < x.1.kids.length
     case pos =>
      obtain⟨bk,ok,rfl,hbk,hck⟩:=HXK.out (by omega)
      obtain⟨kq,hkq⟩:∃ kq,x.1.kids[jn]? = some kq:=⟨_,List.getElem?_eq_getElem hjl⟩
      have hwf:=HW.out k x.1 (by unfold nds;rw [List.getElem?_map,HX.out];rfl) kq (List.mem_of_getElem? hkq)
      obtain⟨kn,rfl⟩:∃ kn:Nat,kq=(kn:Int):=⟨kq.toNat,by omega⟩
      have cj:=(HLL.out.cell (p:=⟨bk,ok+jn,none⟩) hbk).trans (hck jn kn hkq)
      have HDR:=hid (show x.1.kids.drop jn=(kn:Int) :: x.1.kids.drop (jn+1) by
       rw [List.drop_eq_getElem_cons hjl,(List.getElem?_eq_some_iff.1 hkq).2])
      have ck:wr.cell? ⟨w.heap.size+1,k,none⟩=some (.int .i64 1):=by
       rw [HBj.out.cell k,iA_get D' k (by rw [HDLj.out];omega),HVV.out];rfl
      have fn:=HBj.out.frozen kn
      have cn:wr.cell? ⟨w.heap.size+1,kn,none⟩=some (.int .i64 ((D'.getD kn 0:Nat):Int)):=by
       rw [HBj.out.cell kn,iA_get D' kn (by rw [HDLj.out];omega)]
      have k1:(0:Int)≤(kn:Int):=by omega
      have k2:(kn:Int) < (n:Int):=by omega
      have hkk:kn < k:=by omega
      clear hck hkq hwf
      have j1:decide ((jn:Int) < (x.1.kids.length:Int))=true:=decide_eq_true (by omega)
      have j2:decide (jn < x.1.kids.length)=true:=decide_eq_true hjl
      go_wp2_with fail
      refine⟨⟨jn+1,D'.set kn (1+1),by omega,by go_num,hid (by rw [List.length_set];exact HDLj.out),hid (by rw [← iA_set];exact HBj.out.set_ kn _),hid (HTj.out.far (by simp) _),hid (by have h9:=HDK.out;rw [HDR.out] at h9;exact h9),hid (by rw [getD_set,if_neg (by omega)];exact HVV.out),hid (HAA.out.set (by omega)),hid (bset HLL.out (by simp))⟩,by simp [intOf];omega⟩
     case neg =>
      have HDE:=hid (show D'=dStep (nds xs) k D by have h9:=HDK.out;rw [List.drop_of_length_le (by omega)] at h9;exact h9)
      have j1:decide ((jn:Int) < (x.1.kids.length:Int))=false:=decide_eq_false (by omega)
      have j2:decide (jn < x.1.kids.length)=false:=decide_eq_false hjl
      go_wp2_with fail
      refine⟨⟨k,D',by omega,by go_num,HDLj,HBj,HTj,hid (by rw [HDE.out];exact HD.out),HAA,HLL⟩,by (first | (simp [intOf];done) | (simp [intOf];omega))⟩
   ·have n0:((v:Int) == 0)=false:=by simp;omega
    have hz2:=hid hz
    go_wp2_with fail
    have HB1:=hid (show Blk wr (w.heap.size+1) 3 (iA (dOne k D)) from (by unfold dOne;rw [if_neg (by rw [← HV.out];exact hz2.out)];exact HB.out))
    have HT1:=hid (show Blk wr w.heap.size 26 #[.slice (some ⟨b,o,none⟩) n c,.slice B m d] from HT.out)
    have HL1:=hid (show Below w.heap.size w wr from HL.out)
    have Hv:=hid (show (dOne k D).getD k 0=v from (by unfold dOne;rw [if_neg (by rw [← HV.out];exact hz2.out)];exact HV.out.symm))
    have HA1:=hid (HA.out.dOne (i:=k) (by omega))
    have hv1:v≤n - (k+1)+1:=by have:=HA1.out k;rw [Hv.out] at this;exact this
    have HD1:=hid (dOne_len k D)
    go_loopw [34] (fun j wr_1=>∃ (jn:Nat) (D':List Nat),jn≤x.1.kids.length∧j=.int .i64 jn∧Hid (D'.length=n)∧Hid (Blk wr_1 (w.heap.size+1) 3 (iA D'))∧Hid (Blk wr_1 w.heap.size 26 #[.slice (some ⟨b,o,none⟩) n c,.slice B m d])∧Hid (dKids v (x.1.kids.drop jn) D'=dStep (nds xs) k D)∧Hid (D'.getD k 0=v)∧Hid (AllLe (n - k+1) D')∧Hid (Below w.heap.size w wr_1)) (fun j _=>x.1.kids.length - (intOf j).toNat)
    case atStart=>exact⟨0,dOne k D,Nat.zero_le _,rfl,hid (HD1.out.trans HDL.out),HB1,HT1,hid (by rw [List.drop_zero,dStep,Hv.out,nds_kids HX.out]),Hv,hid (HA1.out.mono (by omega)),HL1⟩
    case round =>
     obtain⟨jn,D',hj,rfl,HDLj,HBj,HTj,HDK,HVV,HAA,HLL⟩:=hrel
     by_cases hjl:jn < x.1.kids.length
     case pos =>
      obtain⟨bk,ok,rfl,hbk,hck⟩:=HXK.out (by omega)
      obtain⟨kq,hkq⟩:∃ kq,x.1.kids[jn]? = some kq:=⟨_,List.getElem?_eq_getElem hjl⟩
      have hwf:=HW.out k x.1 (by unfold nds;rw [List.getElem?_map,HX.out];rfl) kq (List.mem_of_getElem? hkq)
      obtain⟨kn,rfl⟩:∃ kn:Nat,kq=(kn:Int):=⟨kq.toNat,by omega⟩
      have cj:=(HLL.out.cell (p:=⟨bk,ok+jn,none⟩) hbk).trans (hck jn kn hkq)
      have HDR:=hid (show x.1.kids.drop jn=(kn:Int) :: x.1.kids.drop (jn+1) by
       rw [List.drop_eq_getElem_cons hjl,(List.getElem?_eq_some_iff.1 hkq).2])
      have ck:wr.cell? ⟨w.heap.size+1,k,none⟩=some (.int .i64 ((v:Nat):Int)):=by
       rw [HBj.out.cell k,iA_get D' k (by rw [HDLj.out];omega),HVV.out]
      have fn:=HBj.out.frozen kn
      have cn:wr.cell? ⟨w.heap.size+1,kn,none⟩=some (.int .i64 ((D'.getD kn 0:Nat):Int)):=by
       rw [HBj.out.cell kn,iA_get D' kn (by rw [HDLj.out];omega)]
      have k1:(0:Int)≤(kn:Int):=by omega
      have k2:(kn:Int) < (n:Int):=by omega
      have hkk:kn < k:=by omega
      clear hck hkq hwf
      have j1:decide ((jn:Int) < (x.1.kids.length:Int))=true:=decide_eq_true (by omega)
      have j2:decide (jn < x.1.kids.length)=true:=decide_eq_true hjl
      go_wp2_with fail
      refine⟨⟨jn+1,D'.set kn (v+1),by omega,by go_num,hid (by rw [List.length_set];exact HDLj.out),hid (by rw [← iA_set];exact HBj.out.set_ kn _),hid (HTj.out.far (by simp) _),hid (by have h9:=HDK.out;rw [HDR.out] at h9;exact h9),hid (by rw [getD_set,if_neg (by omega)];exact HVV.out),hid (HAA.out.set (by omega)),hid (bset HLL.out (by simp))⟩,by simp [intOf];omega⟩
     case neg =>
      have HDE:=hid (show D'=dStep (nds xs) k D by have h9:=HDK.out;rw [List.drop_of_length_le (by omega)] at h9;exact h9)
      have j1:decide ((jn:Int) < (x.1.kids.length:Int))=false:=decide_eq_false (by omega)
      have j2:decide (jn < x.1.kids.length)=false:=decide_eq_false hjl
      go_wp2_with fail
      refine⟨⟨k,D',by omega,by go_num,HDLj,HBj,HTj,hid (by rw [HDE.out];exact HD.out),HAA,HLL⟩,by (first | (simp [intOf];done) | (simp [intOf];omega))⟩
end Go.Proofs.YthepmkjggfijoaaGreatDoor
