/-
  A part of the proof.
-/
import Derived.Test.YthepmkjggfijoaaGreatDoorSA
import Derived.Deep.QuietTactic
import Derived.BigQuiet
import Derived.Deep.RegionLaw
import Derived.Deep.AppendLies
import Derived.Test.YthepmkjggfijoaaGreatDoorS08
import Derived.Test.YthepmkjggfijoaaGreatDoorS07
import Derived.Test.YthepmkjggfijoaaGreatDoorJ02
set_option linter.all false
set_option maxRecDepth 100000
set_option maxHeartbeats 2000000
namespace Go.Proofs.YthepmkjggfijoaaGreatDoor
open Go.RowKit Mist
attribute [local go_sem] aj aH aS aB ak
def SeedIn (w:World)(g:Nat)(lv:Value)(l:Bs):Prop :=
 ∃ A c,lv=.slice A l.length c∧l.length≤c∧c < 4611686018427387904∧(l ≠ []→∃ b o,A=some ⟨b,o,none⟩∧b < g∧b < w.heap.size∧∀ k,k < l.length→w.cell? ⟨b,o+k,none⟩=some (.int .u8 (gt l k).toNat))
theorem SeedIn.below {w w':World}{g:Nat}{lv:Value}{l:Bs}(h:SeedIn w g lv l)(f:Below g w w')(q:g≤w.heap.size):SeedIn w' g lv l:=by
 obtain⟨A,c,rfl,j,d,n⟩:=h
 refine⟨A,c,rfl,j,d,fun h0=>?_⟩
 obtain⟨b,o,rfl,a,i,m⟩:=n h0;exact⟨b,o,rfl,a,aaW i f.size,fun k e=>(f.cell (p:=⟨b,o+k,none⟩) a).trans (m k e)⟩
structure abH (g:Nat) (wild:Bool) (iv:Value) (w:World) (s:abd) (xs:List NV) (nv lv:Value):Prop where
 blk:aC w g 81 #[lv,nv,iv,.bool wild]
 seed:SeedIn w g lv s.left
 own:w.ownsRow g 50 5 nv xs.length (iO xs)
 kids:∀ x ∈ xs,cB w x.2 x.1.kids
 ns:aA xs=s.ns
 pow : Lib.TabBelow Tryz.prog g w "internal/strconv.uint64pow10" .u64 Lib.pow10Tab
section
variable {g:Nat} {wild:Bool} {iv:Value} {w w':World} {s:abd} {xs:List NV} {nv lv:Value}
theorem abH.lt (h:abH g wild iv w s xs nv lv):g < w.heap.size:=h.blk.lt
theorem abH.len (h:abH g wild iv w s xs nv lv):xs.length=s.ns.length:=by rw [← h.ns,aD]
theorem abH.IL (h:abH g wild iv w s xs nv lv):∀ b,nv.ownBlock=some b→g≤b:=fun b a=>(h.own.lt b a).1
theorem abH.low (h:abH g wild iv w s xs nv lv){row:Option Nat}(m:Mv g nv.ownBlock w row w'):Below g w w':=m.below h.lt (aaJ _) h.IL
theorem abH.l6 (h:abH g wild iv w s xs nv lv){row:Option Nat}(m:Mv g nv.ownBlock w row w'){v:Value}{ks:List Int}(a:cB w v ks):cB w' v ks :=
 m.row a (aT a h.blk (by decide)) (iE a h.own (by decide))
theorem abH.below (h:abH g wild iv w s xs nv lv)(a:Below w.heap.size w w'):abH g wild iv w' s xs nv lv :=
 ⟨h.blk.below a h.lt,h.seed.below (a.mono (aaK h.lt)) (aaK h.lt),own_below h.own a,fun x b=>own_below (h.kids x b) a,h.ns,h.pow.on (a.mono (aaK h.lt))⟩
theorem abH.alloc (h:abH g wild iv w s xs nv lv)(o:Obj):abH g wild iv (w.alloc o) s xs nv lv:=h.below ((Below.refl _ _).alloc (aaJ _) o)
theorem abH.drew (h:abH g wild iv w s xs nv lv):abH g wild iv w.drew s xs nv lv:=h.below (Below.drew (Below.refl _ _))
theorem abH.next (h:abH g wild iv w s xs nv lv){b:UInt8}{r:Bs}(c:s.left=b :: r){a:Value}(d:SeedIn w g a r):abH g wild iv (w.setCell ⟨g,0,none⟩ a) s.tl xs nv a :=
 have m:Mv g nv.ownBlock w nv.ownBlock _:=Mv.d_ h.blk 0 a
 ⟨(by have:=h.blk.d_ 0 a;simpa using this),(by show SeedIn _ g a s.left.tail;rw [c];exact d.below (h.low m) (aaK h.lt)),ownsRow_setCell_other h.own (aT h.own h.blk (by decide)) _,fun x e=>h.l6 m (h.kids x e),h.ns,h.pow.on (h.low m)⟩
theorem abH.nextMv (h:abH g wild iv w s xs nv lv)(v:Value):Mv g nv.ownBlock w nv.ownBlock (w.setCell ⟨g,0,none⟩ v):=Mv.d_ h.blk 0 v
theorem abH.add (h:abH g wild iv w s xs nv lv){w1:World}{eO:Value}{x:NV}(c:w.grownBy w1 nv.ownBlock)(a:w1.ownsRow g 50 5 eO (xs.length+1) (iO xs ++ fC x))(b:cB w x.2 x.1.kids):abH g wild iv (w1.setCell ⟨g,1,none⟩ eO) (s.put x.1) (xs ++ [x]) eO lv:=by
 have d:=h.blk.grown c (fun e=>aT h.own h.blk (by decide) e.symm)
 have keep:∀ {v:Value} {cs:List Int},cB w v cs→cB (w1.setCell ⟨g,1,none⟩ eO) v cs:=fun b =>
  ownsRow_setCell_other (b.kept c (iE b h.own (by decide))) (aT (b.kept c (iE b h.own (by decide))) d (by decide)) _
 have f:Below g w (w1.setCell ⟨g,1,none⟩ eO):=dx ((Below.refl _ _).grown c (aaK h.lt) h.IL) (aaJ _)
 refine⟨?_,h.seed.below f (aaK h.lt),?_,fun y hy=>?_,?_,h.pow.on f⟩
 ·have:=d.d_ 1 eO;simpa using this
 ·rw [aaO,rJ];have e:iO [x]=fC x:=by simp [iO]
  rw [e];exact ownsRow_setCell_other a (aT a d (by decide)) _
 ·rcases List.mem_append.1 hy with hy | hy
  ·exact keep (h.kids y hy)
  ·rw [List.mem_singleton.1 hy];exact keep b
 ·rw [nY,h.ns];rfl
end
theorem plNext_any (g:Nat)(wild:Bool)(iv:Value)(w:World)(s:abd)(xs:List NV)(nv lv:Value)(h:abH g wild iv w s xs nv lv) :
  Calls Tryz.prog 110 #[.pointer (some ⟨g,0,none⟩)] w fun e w'=>e=.returned (.int .i64 s.nx)∧∃ D,abH g wild iv w' s.tl xs nv D∧Mv g nv.ownBlock w nv.ownBlock w':=by
 have H:=O h;obtain⟨A,c,rfl,B,G,t⟩:=h.seed;have n:=h.blk.cell 0;have M:=h.blk.frozen 0;have K:=h.lt;clear h;rcases a:s.left with _ | ⟨b,r⟩
 ·have F:=O (show s.tl=s by unfold abd.tl;rw [a];cases s;simp at a;rw [a];rfl);have l:=O (show s.nx=0 by unfold abd.nx;rw [a];rfl);rw [a] at n
  clear a t;go_in
  go_wp2_with fail;go_ret;exact⟨by rw [l.o];rfl,_,by rw [F.o];exact H.o,Mv.refl⟩
 ·obtain⟨m,j,rfl,x,y,q⟩:=t (by rw [a];simp);have k0:=q 0 (by rw [a];simp);rw [a] at n k0 B
  have l:=O (show s.nx=b.toNat by unfold abd.nx;rw [a];rfl);have E:=O a;have N:w.cell? ⟨m,j,none⟩=some (.int .u8 b.toNat):=k0;have i:(b :: r).length=r.length+1:=rfl;rw [i] at n B
  have P:b.toNat < 256:=b.toNat_lt;have L:((r.length:Int)+1 == 0)=false:=by simp;omega
  by_cases C:c=1
  ·subst C;have d:r.length=0:=by omega
   have f:=O (show SeedIn w g (.slice (some ⟨m,j,none⟩) 0 0) r from ⟨_,0,by rw [d],by omega,by omega,fun h0=>absurd (List.eq_nil_of_length_eq_zero d) h0⟩);rw [d] at n
   clear a t q k0 i B d L
   generalize b.toNat=u at *
   go_in
   go_wp2_with fail;go_ret;exact⟨by rw [l.o];rfl,_,H.o.next E.o f.o,H.o.nextMv _⟩
  ·have I:¬ (c:Int)=1:=by omega
   have f:=O (show SeedIn w g (.slice (some ⟨m,j+1,none⟩) r.length (c - 1)) r from ⟨_,_,rfl,by omega,by omega,fun _=>⟨m,j+1,rfl,x,y,fun k J=>by
   have:=q (k+1) (by rw [a];simp;omega)
   rw [a] at this
   rw [show j+1+k=j+(k+1) by omega,this];rfl⟩⟩)
   clear a t q k0 i
   generalize b.toNat=u at *
   go_in
   go_wp2_with fail;go_ret;exact⟨by rw [l.o];rfl,_,H.o.next E.o f.o,H.o.nextMv _⟩
theorem run_words (r:Nat)(h:r < 8)(w:World):Sem.run Tryz.prog (Instr.index 160 (.agg #[.string ⟨#[97]⟩,.string ⟨#[98]⟩,.string ⟨#[99,50]⟩,.string ⟨#[115,111]⟩,.string ⟨#[105,102,102]⟩,.string ⟨#[116,114,101,101]⟩,.string ⟨#[120]⟩,.string ⟨#[108,101,116,115]⟩]) (.int .i64 r)) w=.ok (.string (aM (sg wordsG r))) w:=by
 obtain rfl | rfl | rfl | rfl | rfl | rfl | rfl | rfl:r=0∨r=1∨r=2∨r=3∨r=4∨r=5∨r=6∨r=7:=by omega
 all_goals kernel_rfl
theorem run_gaps (r:Nat)(h:r < 6)(w:World):Sem.run Tryz.prog (Instr.index 161 (.agg #[.string ⟨#[32]⟩,.string ⟨#[32,32]⟩,.string ⟨#[10]⟩,.string ⟨#[32,35,32,97,59,32,40,10]⟩,.string ⟨#[32]⟩,.string ⟨#[32,10,32]⟩]) (.int .i64 r)) w=.ok (.string (aM (sg gapsG r))) w:=by
 obtain rfl | rfl | rfl | rfl | rfl | rfl:r=0∨r=1∨r=2∨r=3∨r=4∨r=5:=by omega
 all_goals kernel_rfl
theorem plWord_any (b:Nat)(w:World):Calls Tryz.prog 111 #[.int .i64 (b:Int)] w fun e w'=>e=.returned (.string (aM (acM b)))∧w'=w:=by
 obtain⟨r,a⟩:∃ r,r=b % 8:=⟨_,rfl⟩;have d:=O (show acM b=sg wordsG r by rw [a];rfl);have h:Int.tmod (b:Int) 8=(r:Int):=by rw [Int.tmod_eq_emod_of_nonneg (by omega),a];omega
 have f:(b:Int) % 8=(r:Int):=by rw [a];omega
 have c:=run_words r (by omega) w;clear a;go_in
 go_wp2_with fail;go_ret;exact⟨by rw [d.o];rfl,rfl⟩
theorem plGap_any (g:Nat)(wild:Bool)(iv:Value)(w:World)(s:abd)(xs:List NV)(nv lv:Value)(h:abH g wild iv w s xs nv lv) :
  Calls Tryz.prog 113 #[.pointer (some ⟨g,0,none⟩)] w fun e w'=>e=.returned (.string (aM (acP wild s)))∧∃ c,abH g wild iv w' (acJ wild s) xs nv c∧Mv g nv.ownBlock w nv.ownBlock w':=by
 have H:=O h;have c3:=h.blk.cell 3;have n:=h.lt;clear h;cases wild
 ·go_in
  go_wp2_with fail;go_ret;exact⟨rfl,_,H.o,Mv.refl⟩
 obtain⟨r,f⟩:∃ r,r=s.nx % 6:=⟨_,rfl⟩;have l:=O (show acP true s=sg gapsG r by rw [f];rfl);obtain⟨b,d⟩:∃ b,b=s.nx:=⟨_,rfl⟩;have t:Int.tmod (b:Int) 6=(r:Int):=by rw [Int.tmod_eq_emod_of_nonneg (by omega),f,d];omega
 have q:(b:Int) % 6=(r:Int):=by rw [f,d];omega
 have a:=run_gaps r (by omega);have k:=O d;clear f d;go_in
 go_wp2_with fail;refine (plNext_any g true iv _ s xs nv _ H.o).mono ?_;rintro e w1⟨rfl,c,h1,i⟩;have j:=O h1;have m:=O i;clear h1 i;rw [← k.o]
 replace a:=a w1
 go_wp2_with fail;go_ret;exact⟨by rw [l.o];rfl,_,j.o,m.o⟩
end Go.Proofs.YthepmkjggfijoaaGreatDoor
namespace Mist
theorem word_stopG (t r:Bs)(q:r=[]∨∃ c u,r=c :: u∧dI c=false)(h0:0 < t.length)(f:dP (gt t 0)=true)(j:t.all dI=true)(n:first t ≠ (0,[])):first (t ++ r)=first t:=by
 have m:=lQ dI t r j q;have b:=lQ dI t [] j (.inl rfl);rw [List.append_nil] at b
 have k:gt (t ++ r) 0=gt t 0:=by cases t <;> simp_all [gt]
 have a:(t ++ r).take (aV dI (t ++ r))=t:=by rw [m];simp
 have h:t.take (aV dI t)=t:=by rw [b];simp
 have l:¬ (t ++ r).length=0:=by rw [aaO];omega
 have d:¬ t.length=0:=by omega
 by_cases e:hasB keywords t=true
 ·rw [jI _ l (by rw [k];exact f) (by rw [a];exact e),jI _ d f (by rw [h];exact e),a,h]
 ·by_cases i:t.length≤12
  ·rw [iD _ l (by rw [k];exact f) (by rw [a];exact e) (by rw [m];exact i),iD _ d f (by rw [h];exact e) (by rw [b];exact i),a,h]
  ·exact absurd (jE _ d f (by rw [h];exact e) (by rw [b];exact i)) n
theorem num_stopG (t r:Bs)(l:r=[]∨∃ c n,r=c :: n∧aQ c=false)(h0:0 < t.length)(i:dP (gt t 0)=false)(hd:aQ (gt t 0)=true)(e:t.all aQ=true)(h:g_ t=true):first (t ++ r)=first t:=by
 have m:=lQ aQ t r e l;have b:=lQ aQ t [] e (.inl rfl);rw [List.append_nil] at b
 have f:gt (t ++ r) 0=gt t 0:=by cases t <;> simp_all [gt]
 have a:(t ++ r).take (aV aQ (t ++ r))=t:=by rw [m];simp
 have j:t.take (aV aQ t)=t:=by rw [b];simp
 have k:¬ (t ++ r).length=0:=by rw [aaO];omega
 have d:¬ t.length=0:=by omega
 rw [iJ _ k (by rw [f];simp [i]) (by rw [f];exact hd) (by rw [a];exact h),iJ _ d (by simp [i]) hd (by rw [j];exact h),a,j]
def GoodF (E:Bs):List (Bs × Nat × Bs)→Prop
 | []=>True
 | (g,k,t) :: r=>skip (g ++ (t ++ (aN r ++ E)))=g.length∧first (t ++ (aN r ++ E))=(k,t)∧k ≠ 0∧0 < t.length∧GoodF E r
theorem itemsF_placed (E:Bs)(c:skip E=E.length)(its:List (Bs × Nat × Bs)):∀ (a:Bs),GoodF E its→Placed (a ++ (aN its ++ E)) (a.length+skip (aN its ++ E)) (fO a.length its):=by
 induction its with
 | nil=>intro a _;show (a ++ (aN [] ++ E)).length≤_;simp [aN,c]
 | cons x r i =>
  obtain⟨g,k,t⟩:=x;intro a d;obtain⟨h1,h2,h3,h4,h5⟩:=d;have hi:=i (a ++ g ++ t) h5;have e:a ++ (aN ((g,k,t) :: r) ++ E)=(a ++ g ++ t) ++ (aN r ++ E):=by simp [aN]
  have h:skip (aN ((g,k,t) :: r) ++ E)=g.length:=by
   rw [← h1];simp [aN]
  rw [h,e]
  have hd:((a ++ g ++ t) ++ (aN r ++ E)).drop (a.length+g.length)=t ++ (aN r ++ E):=by
   rw [List.append_assoc (a ++ g),List.drop_append_of_le_length (by simp)];simp
  have b:((a ++ g ++ t) ++ (aN r ++ E)).drop (a.length+g.length+t.length)=aN r ++ E:=by
   rw [show a.length+g.length+t.length=(a ++ g ++ t).length by simp;omega];simp
  have f:(a ++ g ++ t).length=a.length+g.length+t.length:=by simp;omega
  rw [f] at hi
  refine⟨?_,rfl,by rw [hd];exact h2,h3,?_⟩
  ·simp;omega
  ·show Placed _ (a.length+g.length+t.length+skip (List.drop (a.length+g.length+t.length) _)) _
   rw [b];exact hi
def abg (r:Bs):Prop:=r=[]∨∃ c r',r=c :: r'∧dI c=false
def abf (r:Bs):Prop:=∃ c r',r=c :: r'∧(c=32∨c=10)
theorem abf.np {r:Bs}(h:abf r):abg r:=by
 obtain⟨c,a,rfl,rfl | rfl⟩:=h <;> exact .inr ⟨_,_,rfl,by decide⟩
def GapB (g:Bs):Prop:=(∀ r,skip (g ++ r)=g.length+skip r)∧g.all gV=true
theorem acK:GapB []:=⟨fun r=>by simp,rfl⟩
theorem GapB.append {g h:Bs}(a:GapB g)(b:GapB h):GapB (g ++ h) :=
 ⟨fun r=>by rw [List.append_assoc,a.1,b.1,aaO];omega,by rw [List.all_append,a.2,b.2];rfl⟩
theorem gapB_32:GapB [32]:=⟨fun r=>by show gK false (32 :: r)=_;rw [gK,if_pos (by decide)];rfl,by decide⟩
theorem gapB_10:GapB [10]:=⟨fun r=>by show gK false (10 :: r)=_;rw [gK,if_pos (by decide)];rfl,by decide⟩
theorem gapsG_ok:∀ g ∈ gapsG,GapB g∧∃ c b,g=c :: b∧(c=32∨c=10):=by
 intro g a
 have h6:GapB [32,35,32,97,59,32,40,10]:=⟨fun r=>by
  show gK false (32 :: 35 :: 32 :: 97 :: 59 :: 32 :: 40 :: 10 :: r)=_
  rw [gK,if_pos (by decide),gK,if_neg (by decide),if_pos (by decide),gK,if_neg (by decide),gK,if_neg (by decide),gK,if_neg (by decide),gK,if_neg (by decide),gK,if_neg (by decide),gK,if_pos (by decide)]
  show _=8+gK false r
  omega,by decide⟩
 unfold gapsG at a
 simp only [List.mem_cons,List.not_mem_nil,or_false] at a
 rcases a with rfl | rfl | rfl | rfl | rfl | rfl
 ·exact⟨gapB_32,_,_,rfl,.inl rfl⟩
 ·exact⟨gapB_32.append gapB_32,_,_,rfl,.inl rfl⟩
 ·exact⟨gapB_10,_,_,rfl,.inr rfl⟩
 ·exact⟨h6,_,_,rfl,.inl rfl⟩
 ·exact⟨gapB_32,_,_,rfl,.inl rfl⟩
 ·exact⟨(gapB_32.append gapB_10).append gapB_32,_,_,rfl,.inl rfl⟩
theorem sg_mem (l:List Bs)(i:Nat)(h:i < l.length):sg l i ∈ l:=by rw [IY l i h];exact List.getElem_mem h
theorem gapG_ok (wild:Bool)(s:abd):GapB (acP wild s)∧∃ c a,acP wild s=c :: a∧(c=32∨c=10):=by
 unfold acP;split
 ·exact gapsG_ok _ (sg_mem gapsG _ (by show s.nx % 6 < 6;omega))
 ·exact⟨gapB_32,_,_,rfl,.inl rfl⟩
theorem gapG_gh (wild:Bool)(s:abd)(r:Bs):abf (acP wild s ++ r):=by
 obtain⟨_,c,b,h,a⟩:=gapG_ok wild s;exact⟨c,b ++ r,by rw [h];rfl,a⟩
structure TkOk (k:Nat) (t r:Bs):Prop where
 first:Mist.first (t ++ r)=(k,t)
 kind:k ≠ 0
 pos:0 < t.length
 skip:Mist.skip (t ++ r)=0
 valid:t.all gV=true
theorem skip_c (b:UInt8)(r:Bs)(h1:pR b=false)(h2:(b == 35)=false):skip (b :: r)=0:=by
 unfold skip;rw [gK,if_neg (by simp [h1]),if_neg (by simp [h2])]
def headOk (t:Bs):Bool:=match t with
 | []=>false
 | b :: _=>!pR b && !(b == 35)
theorem skip_head {t r:Bs}(h:headOk t=true):skip (t ++ r)=0:=by
 cases t with
 | nil=>cases h
 | cons b t =>
  unfold headOk at h
  rw [aaS] at h
  exact skip_c b _ (by simpa using h.1) (by simpa using h.2)
def wordB (k:Nat)(t:Bs):Bool:=decide (0 < t.length) && dP (gt t 0) && t.all dI && (first t == (k,t)) && (k != 0) && t.all gV && headOk t
theorem word_ok {k:Nat}{t r:Bs}(h:wordB k t=true)(a:abg r):TkOk k t r:=by
 unfold wordB at h
 simp only [aaS,decide_eq_true_eq,bne_iff_ne,beq_iff_eq] at h
 obtain⟨⟨⟨⟨⟨⟨h0,h1⟩,h2⟩,h3⟩,h4⟩,h5⟩,h6⟩:=h;exact⟨by rw [word_stopG t r a h0 h1 h2 (by rw [h3];intro e;injection e with e;exact h4 e),h3],h4,h0,skip_head h6,h5⟩
def numB (t:Bs):Bool:=decide (0 < t.length) && !dP (gt t 0) && aQ (gt t 0) && t.all aQ && g_ t && (first t == (2,t)) && t.all gV && headOk t
theorem part_digit {c:UInt8}(h:dI c=false):aQ c=false:=by
 unfold dI at h
 cases hd:aQ c
 ·rfl
 ·rw [hd] at h;simp at h
theorem abg.digit {r:Bs}(h:abg r):r=[]∨∃ c a,r=c :: a∧aQ c=false:=by
 rcases h with h | ⟨c,a,h,b⟩
 ·exact .inl h
 ·exact .inr ⟨c,a,h,part_digit b⟩
theorem num_ok {t r:Bs}(h:numB t=true)(a:abg r):TkOk 2 t r:=by
 unfold numB at h
 simp only [aaS,decide_eq_true_eq,beq_iff_eq] at h
 obtain⟨⟨⟨⟨⟨⟨⟨h0,h1⟩,h2⟩,h3⟩,h4⟩,h5⟩,h6⟩,h7⟩:=h;exact⟨by rw [num_stopG t r a.digit h0 (by simpa using h1) h2 h3 h4,h5],by decide,h0,skip_head h7,h6⟩
theorem one_ok (x:UInt8)(h:x ∈ [40,41,91,93,123,125,44,59,58,43,45,42,47,37])(r:Bs):TkOk 4 [x] r:=by
 have h1:∀ x ∈ ([40,41,91,93,123,125,44,59,58,43,45,42,47,37]:List UInt8),dP x=false∧aQ x=false∧headOk [x]=true∧[x].all gV=true∧first [x]=(4,[x])∧∀ n:Fin 256,first [x,UInt8.ofNat n.val]=(4,[x]):=by decide +kernel
 obtain⟨a,b,c,d,e,f⟩:=h1 x h
 refine⟨?_,by decide,by simp,skip_head c,d⟩
 cases r with
 | nil=>exact e
 | cons y r =>
  show first (x :: y :: r)=_
  rw [oo _ _ _ a b]
  have:=f ⟨y.toNat,y.toNat_lt⟩
  rwa [show UInt8.ofNat y.toNat=y by simp] at this
theorem two_ok (x y:UInt8)(h:(x,y) ∈ ([(61,61),(33,61),(60,61),(62,61),(46,46)]:List (UInt8 × UInt8)))(r:Bs):TkOk 4 [x,y] r:=by
 have h1:∀ p ∈ ([(61,61),(33,61),(60,61),(62,61),(46,46)]:List (UInt8 × UInt8)),dP p.1=false∧aQ p.1=false∧headOk [p.1,p.2]=true∧[p.1,p.2].all gV=true∧first [p.1,p.2]=(4,[p.1,p.2]):=by decide +kernel
 obtain⟨a,b,c,d,e⟩:=h1 _ h
 refine⟨?_,by decide,by simp,skip_head c,d⟩
 show first (x :: y :: r)=_
 rw [oo _ _ _ a b];exact e
theorem eq_ok (x z:UInt8)(h:(x,z) ∈ ([(61,61),(60,61),(62,61),(46,46)]:List (UInt8 × UInt8)))(y:UInt8)(r:Bs)(hy:y ≠ z):TkOk 4 [x] (y :: r):=by
 have h1:∀ p ∈ ([(61,61),(60,61),(62,61),(46,46)]:List (UInt8 × UInt8)),dP p.1=false∧aQ p.1=false∧headOk [p.1]=true∧[p.1].all gV=true∧∀ n:Fin 256,UInt8.ofNat n.val ≠ p.2→first [p.1,UInt8.ofNat n.val]=(4,[p.1]):=by decide +kernel
 obtain⟨a,b,c,d,f⟩:=h1 _ h
 refine⟨?_,by decide,by simp,skip_head c,d⟩
 show first (x :: y :: r)=_
 rw [oo _ _ _ a b]
 have:=f ⟨y.toNat,y.toNat_lt⟩
 rw [show UInt8.ofNat y.toNat=y by simp] at this
 exact this hy
def GoodR:Pcs→Bs→Prop
 | [],_=>True
 | (g,k,t) :: I,r=>GapB g∧TkOk k t (aN I ++ r)∧GoodR I r
theorem acR:∀ (I J:Pcs) (r:Bs),GoodR I (aN J ++ r)→GoodR J r→GoodR (I ++ J) r
 | [],_,_,_,h=>h
 | (g,k,t) :: I,J,r,⟨h1,h2,h3⟩,h=>⟨h1,by
  show TkOk k t (aN (I ++ J) ++ r)
  rw [qZ,List.append_assoc];exact h2,acR I J r h3 h⟩
theorem goodR_F (E:Bs):∀ I:Pcs,GoodR I E→GoodF E I
 | [],_=>trivial
 | (g,k,t) :: I,⟨h1,h2,h3⟩=>⟨by rw [h1.1,h2.skip];rfl,h2.first,h2.kind,h2.pos,goodR_F E I h3⟩
theorem goodR_valid (E:Bs):∀ I:Pcs,GoodR I E→(aN I).all gV=true
 | [],_=>rfl
 | (g,k,t) :: I,⟨h1,h2,h3⟩=>by
  show (g ++ (t ++ aN I)).all gV=true
  rw [List.all_append,List.all_append,h1.2,h2.valid,goodR_valid E I h3];rfl
theorem read_good_pcs (I:Pcs)(E:Bs)(h:GoodR I E)(d:skip E=E.length)(hv:E.all gV=true)(k:I.length≤800)(j:(aN I ++ E).length≤2000):Mist.read (aN I ++ E)=(fO 0 I,0,0):=by
 have c:=itemsF_placed E d I [] (goodR_F E I h);simp only [List.nil_append,List.length_nil,Nat.zero_add] at c
 have a:(aN I ++ E).all gV=true:=by rw [List.all_append,goodR_valid E I h,hv];rfl
 have f:(check (aN I ++ E)).2=0:=by
  unfold check;rw [if_neg (by omega)]
  have:(aN I ++ E).findIdx? (fun b=>!gV b)=none:=by
   rw [List.findIdx?_eq_none_iff];intro x i;rw [aaR.1 a x i];rfl
  rw [this]
 have e:Mist.read (aN I ++ E)=dJ ((aN I ++ E).length+1) (aN I ++ E) (skip (aN I ++ E)) []:=by unfold Mist.read;rw [if_neg (by simpa using f)]
 rw [e,jW _ _ _ _ [] (by omega) (by simp [mW];omega) c];rfl
def abh (I:Pcs):Prop:=∀ r,abg r→GoodR I r
def abj (I:Pcs):Prop:=∃ k t R,I=([],k,t) :: R∧∃ c t',t=c :: t'∧c ≠ 61∧c ≠ 46
structure abe (I:Pcs):Prop where
 good:abh I
 start:abj I
theorem acL {g:Bs}{k:Nat}{t:Bs}{I:Pcs}{r:Bs}(a:GapB g)(b:TkOk k t (aN I ++ r))(h:GoodR I r):GoodR ((g,k,t) :: I) r:=⟨a,b,h⟩
theorem np_c {c:UInt8}{r:Bs}(h:dI c=false):abg (c :: r):=.inr ⟨c,r,rfl,h⟩
theorem abj.text {I:Pcs}(h:abj I)(g:Bs):aN (Pcs.on g I)=g ++ aN I:=by
 obtain⟨k,t,R,rfl,_⟩:=h
 show (g ++ []) ++ (t ++ aN R)=g ++ ([] ++ (t ++ aN R))
 simp
theorem abe.on {I:Pcs}(h:abe I){g:Bs}(a:GapB g):abh (Pcs.on g I):=by
 intro r b;have h1:=h.good r b;obtain⟨k,t,R,rfl,_⟩:=h.start;obtain⟨_,h2,h3⟩:=h1;exact⟨by show GapB (g ++ []);rw [List.append_nil];exact a,h2,h3⟩
theorem abj.ne {I:Pcs}(h:abj I)(g:Bs)(r:Bs):∃ c a,aN I ++ r=c :: a∧c ≠ 61∧c ≠ 46:=by
 obtain⟨k,t,R,rfl,c,b,rfl,h1,h2⟩:=h;exact⟨c,_,rfl,h1,h2⟩
theorem acT {x:UInt8}(h:x ∈ [40,41,91,93,123,125,44,59,58,43,45,42,47,37]){g:Bs}(b:GapB g){I:Pcs}{r:Bs}(a:GoodR I r):GoodR ((g,4,[x]) :: I) r:=acL b (one_ok x h _) a
theorem some_good (wild:Bool){I:Pcs}(s:abd)(h:abh I):abe (someP wild I s):=by
 unfold someP;split
 ·refine⟨fun r _=>?_,_,_,_,rfl,_,_,rfl,by decide,by decide⟩
  refine acT (by decide) acK (acT (by decide) acK (acR I _ r (h _ ?_) (acT (by decide) (gapG_ok wild _).1 (acT (by decide) acK trivial))))
  show abg ((acP wild s.tl ++ ([41] ++ _)) ++ r)
  rw [List.append_assoc];exact (gapG_gh wild _ _).np
 ·refine⟨fun r _=>?_,_,_,_,rfl,_,_,rfl,by decide,by decide⟩
  exact acT (by decide) acK (acR I _ r (h _ (np_c (by decide))) (acT (by decide) acK trivial))
theorem words_ok:∀ x ∈ wordsG,wordB 1 x=true:=by decide +kernel
theorem wordG_ok (b:Nat):wordB 1 (acM b)=true:=words_ok _ (sg_mem wordsG _ (by show b % 8 < 8;omega))
theorem words_start:∀ x ∈ wordsG,∃ c b,x=c :: b∧c ≠ 61∧c ≠ 46:=by
 intro x a;unfold wordsG at a
 simp only [List.mem_cons,List.not_mem_nil,or_false] at a
 rcases a with rfl | rfl | rfl | rfl | rfl | rfl | rfl | rfl <;> exact⟨_,_,rfl,by decide,by decide⟩
theorem wordG_start (b:Nat):∃ c a,acM b=c :: a∧c ≠ 61∧c ≠ 46:=words_start _ (sg_mem wordsG _ (by show b % 8 < 8;omega))
theorem nums_ok:∀ n:Fin 140,numB (Go.Lib.itoa ((n.val:Nat):Int))=true∧((Go.Lib.itoa ((n.val:Nat):Int)).headD 0 != 61 && (Go.Lib.itoa ((n.val:Nat):Int)).headD 0 != 46)=true:=by decide +kernel
theorem num_good (n:Nat)(h:n < 140):numB (Go.Lib.itoa (n:Int))=true:=(nums_ok ⟨n,h⟩).1
theorem num_start (n:Nat)(h:n < 140):∃ c b,Go.Lib.itoa (n:Int)=c :: b∧c ≠ 61∧c ≠ 46:=by
 have h1:=num_good n h;have h2:=(nums_ok ⟨n,h⟩).2
 cases a:Go.Lib.itoa (n:Int) with
 | nil=>rw [a] at h1;exact absurd h1 (by decide)
 | cons c t =>
  have h2:((Go.Lib.itoa (n:Int)).headD 0 != 61 && (Go.Lib.itoa (n:Int)).headD 0 != 46)=true:=h2;rw [a] at h2
  simp only [List.headD_cons,aaS,bne_iff_ne] at h2
  exact⟨c,t,rfl,h2.1,h2.2⟩
theorem numPc_nat (n:Nat):numPc (n:Int)=[([],2,Go.Lib.itoa (n:Int))]:=by unfold numPc;rw [if_neg (by omega)]
theorem numPc_good (n:Int)(h1:-140 < n)(h2:n < 140):abh (numPc n)∧abj (numPc n):=by
 unfold numPc;split
 ·obtain⟨m,a⟩:∃ m:Nat,-n=(m:Int):=⟨(-n).toNat,by omega⟩;rw [a];exact⟨fun r b=>acT (by decide) acK (acL acK (num_ok (num_good m (by omega)) (by simpa [aN] using b)) trivial),_,_,_,rfl,_,_,rfl,by decide,by decide⟩
 ·obtain⟨m,a⟩:∃ m:Nat,n=(m:Int):=⟨n.toNat,by omega⟩;rw [a];obtain⟨c,d,h3,h4⟩:=num_start m (by omega);exact⟨fun r b=>acL acK (num_ok (num_good m (by omega)) (by simpa [aN] using b)) trivial,_,_,_,rfl,c,d,h3,h4⟩
theorem leaf_good (b:Nat)(e:b < 60)(s:abd):abe (leafG b s).pc:=by
 unfold leafG;split
 ·obtain⟨h1,h2⟩:=numPc_good ((b * 7:Nat):Int) (by omega) (by omega);exact⟨h1,h2⟩
 ·split
  ·refine⟨fun r a=>acL acK (word_ok ?_ (by simpa [aN] using a)) trivial,?_⟩
   ·split <;> decide
   ·split <;> exact⟨_,_,_,rfl,_,_,rfl,by decide,by decide⟩
  ·refine⟨fun r a=>acL acK (word_ok (wordG_ok b) (by simpa [aN] using a)) trivial,?_⟩
   obtain⟨c,d,h3,h4⟩:=wordG_start b;exact⟨_,_,_,rfl,c,d,h3,h4⟩
theorem op_ok (k:Nat)(d:k < 13){r:Bs}(e:abf r):TkOk (opK k) (sg opsG k) r:=by
 obtain⟨c,f,rfl,a⟩:=e;have h61:c ≠ 61:=by rcases a with rfl | rfl <;> decide
 have b:abg (c :: f):=np_c (by rcases a with rfl | rfl <;> decide)
 match k,d with
 | 0,_=>exact one_ok 43 (by decide) _
 | 1,_=>exact one_ok 45 (by decide) _
 | 2,_=>exact one_ok 42 (by decide) _
 | 3,_=>exact one_ok 47 (by decide) _
 | 4,_=>exact one_ok 37 (by decide) _
 | 5,_=>exact two_ok 61 61 (by decide) _
 | 6,_=>exact two_ok 33 61 (by decide) _
 | 7,_=>exact eq_ok 60 61 (by decide) _ _ h61
 | 8,_=>exact two_ok 60 61 (by decide) _
 | 9,_=>exact eq_ok 62 61 (by decide) _ _ h61
 | 10,_=>exact two_ok 62 61 (by decide) _
 | 11,_=>exact word_ok (by decide) b
 | 12,_=>exact word_ok (by decide) b
end Mist
namespace Go.Proofs.YthepmkjggfijoaaGreatDoor
open Go.RowKit Mist
attribute [local go_sem] aj aH aS aB ak
theorem plPut_any (g:Nat)(wild:Bool)(iv:Value)(w:World)(s:abd)(xs:List NV)(nv lv:Value)(h:abH g wild iv w s xs nv lv)(K:Nat)(x:Bs)(N:Int)(E:Value)(a:List Int)(q:cB w E a)(Q:s.ns.length≤1000000) :
  Calls Tryz.prog 114 #[.pointer (some ⟨g,0,none⟩),.agg #[.int .u8 K,.string (aM x),.int .i64 N,E,.int .i64 0]] w fun e w'=>e=.returned (.int .i64 s.id)∧∃ eO,abH g wild iv w' (s.put ⟨K,x,N,a,0⟩) (xs ++ [(⟨K,x,N,a,0⟩,E)]) eO lv∧Mv g nv.ownBlock w eO.ownBlock w':=by
 obtain⟨A,c,rfl⟩:=dh q;obtain⟨S,r,y,B,C⟩:=info_parts rW;have I:s.id=(xs.length:Int):=by unfold abd.id;rw [h.len]
 rw [I];rw [← h.len] at Q
 clear I;have H:=O h;clear h;have J:=O q;clear q;have P:=H.o.lt;have c3:=H.o.blk.cell 1;have T:=H.o.blk.frozen 1;obtain⟨f,i⟩:∃ f,f=a.length:=⟨_,rfl⟩;rw [← i];have m:=O i;clear i;have R:¬ w.heap.size=g:=by omega
 go_in
 go_wp2_with fail
 go_region_law ((refine step_append_lies _ (by rfl) _ _ _ (by rfl) g 50 S _ 5 64 Tryz.underlying23 r y B C rfl (by omega) _ xs.length (iO xs) (by rfl) (((H.o.own.alloc _).alloc _).drew)
                  ⟨w.heap.size+1,0,none⟩ 1 1 (fC (⟨K,x,N,a,0⟩,.slice A f c)) (by rfl) (by rfl) (World.news_of_block (cs:=#[.int .u8 K,.string (aM x),.int .i64 N,.slice A f c,.int .i64 0]) (t:=50) (fr:=(0,0)) (yZ w _ _)) (by intro u G;simp [fC] at G;rcases G with rfl | rfl | rfl | rfl | rfl <;> rfl)
                  (by omega) (by simp only [maxLen];omega) (by omega) (by simp;omega) (w.heap.size+2) (by simp) ?_;intro U cap w1 d b k F;have D:=((H.o.alloc (.cells #[.int .u8 K,.string (aM x),.int .i64 N,.slice A f c,.int .i64 0] 50)).alloc (.cells #[.int .u8 K,.string (aM x),.int .i64 N,.slice A f c,.int .i64 0] 50)).drew.blk.grown b (fun e=>aT H.o.own H.o.blk (by decide) e.symm);have L:=D.cell 1;have M:=D.frozen 1;clear D))
 all_goals
  have j:=O b;clear b;have n:=O d;clear d;have l:=O k;clear k;go_wp2;go_ret
  refine⟨by (first | rfl|(congr 2;omega)),_,abH.add ((H.o.alloc (.cells #[.int .u8 K,.string (aM x),.int .i64 N,.slice A f c,.int .i64 0] 50)).alloc (.cells #[.int .u8 K,.string (aM x),.int .i64 N,.slice A f c,.int .i64 0] 50)).drew j.o n.o (m.o ▸ own_below J.o (Below.drew (ah (ah (Below.refl _ _) (aaJ _)) (by simp)))),?_⟩
  refine Mv.gset ?_;refine Mv.trans (r1:=nv.ownBlock) (Mv.dD (Mv.dD Mv.refl)).Zp (Mv.grown j.o ?_);rcases l.o with e | e
  ·left;rw [e];rfl
  ·right;rw [e];simp [Value.ownBlock]
def someT (wild:Bool)(t:Bs)(s:abd):Bs:=if wild=true∧s.nx % 4=0 then [40,40] ++ t ++ acP wild s.tl ++ [41,41] else [40] ++ t ++ [41]
theorem someT_text (wild:Bool)(I:Pcs)(s:abd):aN (someP wild I s)=someT wild (aN I) s:=by
 unfold someP someT;split
 ·rw [List.cons_append,List.cons_append]
  show [] ++ ([40] ++ ([] ++ ([40] ++ aN (I ++ _))))=_
  rw [qZ]
  show _=[40,40] ++ aN I ++ acP wild s.tl ++ [41,41]
  simp [aN,sgn]
 ·show [] ++ ([40] ++ aN (I ++ _))=_
  rw [qZ];simp [aN,sgn]
theorem gapG_len (wild:Bool)(s:abd):(acP wild s).length≤8:=by
 unfold acP;split
 ·have:∀ g ∈ gapsG,g.length≤8:=by decide
  exact this _ (sg_mem gapsG _ (by show s.nx % 6 < 6;omega))
 ·decide
theorem plSome_any (g:Nat)(wild:Bool)(iv:Value)(w:World)(s:abd)(xs:List NV)(nv lv:Value)(h:abH g wild iv w s xs nv lv)(t:Bs)(L:t.length≤1000000000) :
  Calls Tryz.prog 195 #[.pointer (some ⟨g,0,none⟩),.string (aM t)] w fun e w'=>e=.returned (.string (aM (someT wild t s)))∧∃ a,abH g wild iv w' (someS wild s) xs nv a∧Mv g nv.ownBlock w nv.ownBlock w':=by
 have H:=O h;have c3:=h.blk.cell 3;have E:=h.lt;clear h;cases wild
 ·have l1:¬ 9223372036854775807 < 1+t.length:=by omega
  have I:¬ 9223372036854775807 < 1+t.length+1:=by omega
  go_in
  go_wp2_with fail;go_ret;exact⟨congrArg (fun x=>Ending.returned (.string x)) (show _=aM ([40] ++ t ++ [41]) from (by rw [← ak,← ak];rfl)),_,H.o,Mv.refl⟩
 have l1:¬ 9223372036854775807 < 1+t.length:=by omega
 have I:¬ 9223372036854775807 < 1+t.length+1:=by omega
 have M:¬ 9223372036854775807 < 2+t.length:=by omega
 obtain⟨r,j⟩:∃ r,r=s.nx % 4:=⟨_,rfl⟩;have d:=O j;obtain⟨b,i⟩:∃ b,b=s.nx:=⟨_,rfl⟩;have K:Int.tmod (b:Int) 4=(r:Int):=by rw [Int.tmod_eq_emod_of_nonneg (by omega),j,i];omega
 have F:(b:Int) % 4=(r:Int):=by rw [j,i];omega
 have u:=O i;clear j i;by_cases h0:r=0
 ·subst h0;have f:=O (show someT true t s=[40,40] ++ t ++ acP true s.tl ++ [41,41] by unfold someT;rw [if_pos ⟨rfl,d.o.symm⟩]);have l:=O (show someS true s=acJ true s.tl by unfold someS;rw [if_pos rfl,if_pos d.o.symm]);have q:((((0:Nat):Int)) == 0)=true:=rfl;go_in
  go_wp2_with fail;refine (plNext_any g true iv _ s xs nv _ H.o).mono ?_;rintro e w1⟨rfl,a,h1,c⟩;have k:=O h1;have m:=O c;clear h1 c;rw [← u.o];go_wp2_with fail;refine (plGap_any g true iv _ s.tl xs nv _ k.o).mono ?_;rintro e w2⟨rfl,J,h2,y⟩;have A:=O h2;have B:=O (m.o.trans y);clear h2 y;have n:=gapG_len true s.tl
  generalize D:acP true s.tl=G at n f ⊢
  have N:¬ 9223372036854775807 < 2+t.length+G.length:=by omega
  have C:¬ 9223372036854775807 < 2+t.length+G.length+2:=by omega
  clear D;go_wp2_with fail;go_ret;exact⟨congrArg (fun x=>Ending.returned (.string x)) (show _=aM (someT true t s) from (by rw [f.o,← ak,← ak,← ak];rfl)),_,by rw [l.o];exact A.o,B.o⟩
 ·have f:=O (show someT true t s=[40] ++ t ++ [41] by unfold someT;rw [if_neg (fun h=>h0 (by rw [d.o];exact h.2))]);have l:=O (show someS true s=s.tl by unfold someS;rw [if_pos rfl,if_neg (fun h=>h0 (by rw [d.o];exact h))]);have q:((r:Int) == 0)=false:=by simp;omega
  go_in
  go_wp2_with fail;refine (plNext_any g true iv _ s xs nv _ H.o).mono ?_;rintro e w1⟨rfl,a,h1,c⟩;have k:=O h1;have m:=O c;clear h1 c;rw [← u.o];go_wp2_with fail;go_ret;exact⟨congrArg (fun x=>Ending.returned (.string x)) (show _=aM (someT true t s) from (by rw [f.o,← ak,← ak];rfl)),_,by rw [l.o];exact k.o,m.o⟩
theorem Mx (w:World)(ks:List Int)(h:ks.length≤1000:=by first|(simp;done)|(simp;omega)):cB (w.alloc (.cells (intCells ks).toArray 3)) (.slice (some ⟨w.heap.size,0,none⟩) ks.length ks.length) ks:=by
 have:=World.ownsRow_lit (base:=0) (e:=3) (size:=1) w (intCells ks).toArray ks.length (aaL _) (by simp only [maxLen];omega) (by simp [intCells])
 unfold cB
 simpa using this
theorem cB.below {w w':World}{v:Value}{ks:List Int}(h:cB w v ks)(a:Below w.heap.size w w'):cB w' v ks:=own_below h a
theorem cB.alloc {w:World}{v:Value}{ks:List Int}(h:cB w v ks)(o:Obj):cB (w.alloc o) v ks:=World.ownsRow.alloc h o
structure abJ (g:Nat) (w:World) (xs:List NV) (nv:Value) (w':World) (xs':List NV) (eO:Value):Prop where
 mv:Mv g nv.ownBlock w eO.ownBlock w'
 new:∃ ys,xs'=xs ++ ys∧∀ y ∈ ys,∀ b,y.2.ownBlock=some b→w.heap.size≤b
section
variable {g:Nat} {w w1 w2:World} {xs xs1 xs2:List NV} {nv gW Qu:Value}
theorem abJ.refl:abJ g w xs nv w xs nv:=⟨Mv.refl,[],by simp,fun y hy=>by cases hy⟩
theorem abJ.size (h:abJ g w xs nv w1 xs1 gW):w.heap.size≤w1.heap.size:=h.mv.size
theorem abJ.trans (h:abJ g w xs nv w1 xs1 gW)(k:abJ g w1 xs1 gW w2 xs2 Qu):abJ g w xs nv w2 xs2 Qu:=by
 obtain⟨ys,e,hy⟩:=h.new;obtain⟨i,d,f⟩:=k.new
 refine⟨h.mv.trans k.mv,ys ++ i,by rw [d,e,List.append_assoc],fun y a b c=>?_⟩
 rcases List.mem_append.1 a with a | a
 ·exact hy y a b c
 ·exact Nat.le_trans h.size (f y a b c)
theorem abJ.aL (h:abJ g w xs nv w1 xs1 gW)(a:Below w1.heap.size w1 w2):abJ g w xs nv w2 xs1 gW:=⟨h.mv.aL a,h.new⟩
theorem abJ.dD {o:Obj}(h:abJ g w xs nv w1 xs1 gW):abJ g w xs nv (w1.alloc o) xs1 gW:=⟨h.mv.dD,h.new⟩
theorem abJ.ne (h:abJ g w xs nv w1 xs1 gW){b:Nat}(a:b < w.heap.size)(c:some b ≠ nv.ownBlock):some b ≠ gW.ownBlock:=h.mv.ne a c
theorem abJ.blk {b:Nat}{T:TypeId}{cs:Array Value}(h:abJ g w xs nv w1 xs1 gW)(a:aC w b T cs)(c:b ≠ g)(d:some b ≠ nv.ownBlock):aC w1 b T cs:=h.mv.blk a c d
theorem gw_at {k n c:Nat}(h:w.heap.size≤k):∀ b,(Value.slice (some ⟨k,0,none⟩) n c).ownBlock=some b→w.heap.size≤b:=fun b a=>by
 simp [Value.ownBlock] at a;omega
theorem gw_none:∀ b,(Value.slice none 0 0).ownBlock=some b→w.heap.size≤b:=fun b a=>by simp [Value.ownBlock] at a
end
structure abK (w0 w:World) (xs:List NV) (v:Value) (ks:List Int):Prop where
 row:cB w v ks
 lo:∀ b,v.ownBlock=some b→w0.heap.size≤b
 far:∀ x ∈ xs,x.2.ownBlock=none∨x.2.ownBlock ≠ v.ownBlock
section
variable {g:Nat} {wild:Bool} {iv lv:Value} {w0 w w1:World} {s:abd} {xs xs1:List NV} {nv gW:Value} {v:Value} {ks:List Int}
theorem cB.lt (h:cB w v ks):∀ b,v.ownBlock=some b→b < w.heap.size:=fun b a=>(World.ownsRow.lt h b a).2
theorem abK.below (h:abK w0 w xs v ks)(a:Below w.heap.size w w1):abK w0 w1 xs v ks:=⟨cB.below h.row a,h.lo,h.far⟩
theorem abK.alloc (h:abK w0 w xs v ks)(o:Obj):abK w0 (w.alloc o) xs v ks:=⟨cB.alloc h.row o,h.lo,h.far⟩
theorem abK.mv (h:abK w0 w xs v ks)(q:abH g wild iv w s xs nv lv)(m:Mv g nv.ownBlock w gW.ownBlock w1):abK w0 w1 xs v ks:=⟨q.l6 m h.row,h.lo,h.far⟩
theorem abK.mw (h:abK w0 w xs v ks)(q:abH g wild iv w s xs nv lv)(m:abJ g w xs nv w1 xs1 gW):abK w0 w1 xs1 v ks:=by
 refine⟨q.l6 m.mv h.row,h.lo,fun x a=>?_⟩
 obtain⟨ys,rfl,hy⟩:=m.new;rcases List.mem_append.1 a with a | a
 ·exact h.far x a
 ·rcases h9:x.2.ownBlock with _ | b
  ·exact .inl rfl
  ·right
   intro e;have h1:=hy x a b h9;have h2:=cB.lt h.row b e.symm;omega
theorem abK.put (h:abK w0 w xs v ks)(q:abH g wild iv w s xs nv lv){x:NV}{c:abd}(a:abH g wild iv w1 c (xs ++ [x]) gW lv)(m:Mv g nv.ownBlock w gW.ownBlock w1)(b:x.2.ownBlock=none∨x.2.ownBlock ≠ v.ownBlock):abK w0 w1 (xs ++ [x]) v ks:=by
 refine⟨q.l6 m h.row,h.lo,fun y hy=>?_⟩
 rcases List.mem_append.1 hy with hy | hy
 ·exact h.far y hy
 ·rw [List.mem_singleton.1 hy];exact b
theorem abK.nil (w0 w:World)(xs:List NV):abK w0 w xs (.slice none 0 0) []:=⟨cB.none_ _,fun b a=>by simp [Value.ownBlock] at a,fun x c=>by
 rcases h9:x.2.ownBlock with _ | b
 ·exact .inl rfl
 ·right;simp [Value.ownBlock]⟩
theorem abK.made (q:abH g wild iv w s xs nv lv){k n c:Nat}(f:w.heap.size=k)(h0:w0.heap.size≤k)(h:cB (w.alloc (.cells (intCells ks).toArray 3)) (.slice (some ⟨k,0,none⟩) n c) ks):abK w0 (w.alloc (.cells (intCells ks).toArray 3)) xs (.slice (some ⟨k,0,none⟩) n c) ks:=by
 refine⟨h,fun b a=>by simp [Value.ownBlock] at a;omega,fun x d=>?_⟩
 rcases h9:x.2.ownBlock with _ | b
 ·exact .inl rfl
 ·right
  intro e;have h1:=cB.lt (q.kids x d) b h9;simp [Value.ownBlock] at e
  omega
theorem abK.empty (q:abH g wild iv w s xs nv lv){k:Nat}(a:w.heap.size=k)(h0:w0.heap.size≤k):abK w0 (w.alloc (.cells #[] 3)) xs (.slice (some ⟨k,0,none⟩) 0 0) []:=by
 subst a;exact abK.made (ks:=[]) (n:=0) (c:=0) q rfl h0 (World.ownsRow_lit (base:=0) (e:=3) (size:=1) w #[] 0 (aaL _) (by simp [maxLen]) rfl)
theorem abK.apart (h:abK w0 w xs v ks){k n c:Nat}(a:w.heap.size≤k):(Value.slice (some ⟨k,0,none⟩) n c).ownBlock=none∨(Value.slice (some ⟨k,0,none⟩) n c).ownBlock ≠ v.ownBlock:=by
 right
 intro e
 have:=cB.lt h.row k (by rw [← e];rfl)
 omega
theorem abK.grow (h:abK w0 w xs v ks){a cap:Nat}{k:Int}(q:abH g wild iv w s xs nv lv)(d:w1.ownsRow 0 3 1 (.slice (some ⟨a,0,none⟩) (ks.length+1) cap) (ks.length+1) (intCells ks ++ [.int .i64 k]))(c:v.ownBlock=some a∨a=w.heap.size)(h0:w0.heap.size≤w.heap.size):abK w0 w1 xs (.slice (some ⟨a,0,none⟩) (ks.length+1) cap) (ks ++ [k]):=by
 refine⟨?_,fun b f=>?_,fun x i=>?_⟩
 ·unfold cB;rw [aaO,eT];exact d
 ·have f:a=b:=by simpa [Value.ownBlock] using f
  subst f;rcases c with e | e
  ·exact h.lo _ e
  ·omega
 ·rcases c with e | e
  ·have:=h.far x i
   rw [e] at this
   simpa [Value.ownBlock] using this
  ·rcases h9:x.2.ownBlock with _ | b
   ·exact .inl rfl
   ·right
    intro j;have h1:=cB.lt (q.kids x i) b h9;simp [Value.ownBlock] at j
    omega
theorem abH.grow (q:abH g wild iv w s xs nv lv)(h:abK w0 w xs v ks)(a:w.grownBy w1 v.ownBlock)(h0:∀ b,v.ownBlock=some b→g≤b):abH g wild iv w1 s xs nv lv :=
 ⟨q.blk.grown a (fun e=>aT h.row q.blk (by decide) e.symm),q.seed.below ((Below.refl _ _).grown a (aaK q.lt) h0) (aaK q.lt),q.own.kept a (iE q.own h.row (by decide)),fun x c=>World.ownsRow.kept (q.kids x c) a (h.far x c),q.ns,q.pow.on ((Below.refl _ _).grown a (aaK q.lt) h0)⟩
theorem abJ.grow (m:abJ g w0 xs nv w xs1 gW)(h:abK w0 w xs1 v ks)(a:w.grownBy w1 v.ownBlock):abJ g w0 xs nv w1 xs1 gW :=
 ⟨⟨a.os.trans m.mv.os,a.tape.trans m.mv.tape,a.output.trans m.mv.output,Nat.le_trans m.size a.size,fun b d c f=>(a.block b (aaW d m.size) (fun e=>by have:=h.lo b e.symm;omega)).trans (m.mv.block b d c f),m.mv.tgt⟩,m.new⟩
theorem abK.blk (h:abK w0 w xs v ks){b:Nat}{cs:Array Value}(a:aC w b 50 cs)(c:w.grownBy w1 v.ownBlock):aC w1 b 50 cs:=a.grown c (fun e=>aT h.row a (by decide) e.symm)
end
end Go.Proofs.YthepmkjggfijoaaGreatDoor
