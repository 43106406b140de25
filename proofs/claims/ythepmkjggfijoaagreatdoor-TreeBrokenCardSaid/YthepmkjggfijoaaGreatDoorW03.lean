/-
  A part of the proof.
-/
import Derived.Test.YthepmkjggfijoaaGreatDoorSA
import Derived.Deep.QuietTactic
import Derived.BigQuiet
import Derived.Deep.RegionLaw
import Derived.Deep.AppendLies
import Derived.Test.YthepmkjggfijoaaGreatDoorS08
import Derived.Test.YthepmkjggfijoaaGreatDoorS07
import Derived.Test.YthepmkjggfijoaaGreatDoorW02
set_option linter.all false
set_option maxRecDepth 100000
set_option maxHeartbeats 2000000
namespace Go.Proofs.YthepmkjggfijoaaGreatDoor
open Go.RowKit Mist
attribute [local go_sem] aj aH aS aB ak
def mD (w:World)(g:Nat)(lv:Value)(l:Bs):Prop :=
 ∃ A c,lv=.slice A l.length c∧l.length≤c∧c < 4611686018427387904∧(l ≠ []→∃ b o,A=some ⟨b,o,none⟩∧b < g∧b < w.heap.size∧∀ k,k < l.length→w.cell? ⟨b,o+k,none⟩=some (.int .u8 (gt l k).toNat))
theorem mD.below {w w':World}{g:Nat}{lv:Value}{l:Bs}(h:mD w g lv l)(f:Below g w w')(q:g≤w.heap.size):mD w' g lv l:=by
 obtain⟨A,c,rfl,j,d,n⟩:=h
 refine⟨A,c,rfl,j,d,fun h0=>?_⟩
 obtain⟨b,o,rfl,a,i,m⟩:=n h0;exact⟨b,o,rfl,a,aaW i f.size,fun k e=>(f.cell (p:=⟨b,o+k,none⟩) a).trans (m k e)⟩
structure dY (g:Nat) (ay:Bool) (iv:Value) (w:World) (s:bC) (xs:List NV) (nv lv:Value):Prop where
 blk:aC w g 81 #[lv,nv,iv,.bool ay]
 seed:mD w g lv s.left
 own:w.ownsRow g 50 5 nv xs.length (iO xs)
 kids:∀ x ∈ xs,cB w x.2 x.1.kids
 ns:aA xs=s.ns
 pow : Lib.TabBelow Tryz.prog g w "internal/strconv.uint64pow10" .u64 Lib.pow10Tab
section
variable {g:Nat} {ay:Bool} {iv:Value} {w w':World} {s:bC} {xs:List NV} {nv lv:Value}
theorem dY.lt (h:dY g ay iv w s xs nv lv):g < w.heap.size:=h.blk.lt
theorem dY.len (h:dY g ay iv w s xs nv lv):xs.length=s.ns.length:=by rw [← h.ns,aD]
theorem dY.IL (h:dY g ay iv w s xs nv lv):∀ b,nv.ownBlock=some b→g≤b:=fun b a=>(h.own.lt b a).1
theorem dY.low (h:dY g ay iv w s xs nv lv){row:Option Nat}(m:Mv g nv.ownBlock w row w'):Below g w w':=m.below h.lt (aaJ _) h.IL
theorem dY.l6 (h:dY g ay iv w s xs nv lv){row:Option Nat}(m:Mv g nv.ownBlock w row w'){v:Value}{ks:List Int}(a:cB w v ks):cB w' v ks :=
 m.row a (aT a h.blk (by decide)) (iE a h.own (by decide))
theorem dY.below (h:dY g ay iv w s xs nv lv)(a:Below w.heap.size w w'):dY g ay iv w' s xs nv lv :=
 ⟨h.blk.below a h.lt,h.seed.below (a.mono (aaK h.lt)) (aaK h.lt),own_below h.own a,fun x b=>own_below (h.kids x b) a,h.ns,h.pow.on (a.mono (aaK h.lt))⟩
theorem dY.alloc (h:dY g ay iv w s xs nv lv)(o:Obj):dY g ay iv (w.alloc o) s xs nv lv:=h.below ((Below.refl _ _).alloc (aaJ _) o)
theorem dY.drew (h:dY g ay iv w s xs nv lv):dY g ay iv w.drew s xs nv lv:=h.below (Below.drew (Below.refl _ _))
theorem dY.next (h:dY g ay iv w s xs nv lv){b:UInt8}{r:Bs}(c:s.left=b :: r){a:Value}(d:mD w g a r):dY g ay iv (w.setCell ⟨g,0,none⟩ a) s.tl xs nv a :=
 have m:Mv g nv.ownBlock w nv.ownBlock _:=Mv.d_ h.blk 0 a
 ⟨(by have:=h.blk.d_ 0 a;simpa using this),(by show mD _ g a s.left.tail;rw [c];exact d.below (h.low m) (aaK h.lt)),ownsRow_setCell_other h.own (aT h.own h.blk (by decide)) _,fun x e=>h.l6 m (h.kids x e),h.ns,h.pow.on (h.low m)⟩
theorem dY.SI (h:dY g ay iv w s xs nv lv)(v:Value):Mv g nv.ownBlock w nv.ownBlock (w.setCell ⟨g,0,none⟩ v):=Mv.d_ h.blk 0 v
theorem dY.add (h:dY g ay iv w s xs nv lv){w1:World}{eO:Value}{x:NV}(c:w.grownBy w1 nv.ownBlock)(a:w1.ownsRow g 50 5 eO (xs.length+1) (iO xs ++ fC x))(b:cB w x.2 x.1.kids):dY g ay iv (w1.setCell ⟨g,1,none⟩ eO) (s.put x.1) (xs ++ [x]) eO lv:=by
 have d:=h.blk.grown c (fun e=>aT h.own h.blk (by decide) e.symm)
 have keep:∀ {v:Value} {f:List Int},cB w v f→cB (w1.setCell ⟨g,1,none⟩ eO) v f:=fun b =>
  ownsRow_setCell_other (b.kept c (iE b h.own (by decide))) (aT (b.kept c (iE b h.own (by decide))) d (by decide)) _
 have i:Below g w (w1.setCell ⟨g,1,none⟩ eO):=dx ((Below.refl _ _).grown c (aaK h.lt) h.IL) (aaJ _)
 refine⟨?_,h.seed.below i (aaK h.lt),?_,fun y hy=>?_,?_,h.pow.on i⟩
 ·have:=d.d_ 1 eO;simpa using this
 ·rw [aaO,rJ];have e:iO [x]=fC x:=by simp [iO]
  rw [e];exact ownsRow_setCell_other a (aT a d (by decide)) _
 ·rcases List.mem_append.1 hy with hy | hy
  ·exact keep (h.kids y hy)
  ·rw [List.mem_singleton.1 hy];exact keep b
 ·rw [nY,h.ns];rfl
end
theorem bU (g:Nat)(ay:Bool)(iv:Value)(w:World)(s:bC)(xs:List NV)(nv lv:Value)(h:dY g ay iv w s xs nv lv) :
  Calls Tryz.prog 110 #[.pointer (some ⟨g,0,none⟩)] w fun e w'=>e=.returned (.int .i64 s.nx)∧∃ L,dY g ay iv w' s.tl xs nv L∧Mv g nv.ownBlock w nv.ownBlock w':=by
 have H:=O h;obtain⟨A,c,rfl,C,G,t⟩:=h.seed;have n:=h.blk.cell 0;have N:=h.blk.frozen 0;have K:=h.lt;clear h;rcases a:s.left with _ | ⟨b,r⟩
 ·have F:=O (show s.tl=s by unfold bC.tl;rw [a];cases s;simp at a;rw [a];rfl);have l:=O (show s.nx=0 by unfold bC.nx;rw [a];rfl);rw [a] at n
  clear a t;go_in
  go_wp2_with fail;go_ret;exact⟨by rw [l.o];rfl,_,by rw [F.o];exact H.o,Mv.refl⟩
 ·obtain⟨m,j,rfl,y,B,q⟩:=t (by rw [a];simp);have u:=q 0 (by rw [a];simp);rw [a] at n u C
  have l:=O (show s.nx=b.toNat by unfold bC.nx;rw [a];rfl);have E:=O a;have P:w.cell? ⟨m,j,none⟩=some (.int .u8 b.toNat):=u;have i:(b :: r).length=r.length+1:=rfl;rw [i] at n C
  have Q:b.toNat < 256:=b.toNat_lt;have M:((r.length:Int)+1 == 0)=false:=by simp;omega
  by_cases D:c=1
  ·subst D;have d:r.length=0:=by omega
   have f:=O (show mD w g (.slice (some ⟨m,j,none⟩) 0 0) r from ⟨_,0,by rw [d],by omega,by omega,fun h0=>absurd (List.eq_nil_of_length_eq_zero d) h0⟩);rw [d] at n
   clear a t q u i C d M
   generalize b.toNat=x at *
   go_in
   go_wp2_with fail;go_ret;exact⟨by rw [l.o];rfl,_,H.o.next E.o f.o,H.o.SI _⟩
  ·have I:¬ (c:Int)=1:=by omega
   have f:=O (show mD w g (.slice (some ⟨m,j+1,none⟩) r.length (c - 1)) r from ⟨_,_,rfl,by omega,by omega,fun _=>⟨m,j+1,rfl,y,B,fun k J=>by
   have:=q (k+1) (by rw [a];simp;omega)
   rw [a] at this
   rw [show j+1+k=j+(k+1) by omega,this];rfl⟩⟩)
   clear a t q u i
   generalize b.toNat=x at *
   go_in
   go_wp2_with fail;go_ret;exact⟨by rw [l.o];rfl,_,H.o.next E.o f.o,H.o.SI _⟩
theorem Pw (r:Nat)(h:r < 8)(w:World):Sem.run Tryz.prog (Instr.index 160 (.agg #[.string ⟨#[97]⟩,.string ⟨#[98]⟩,.string ⟨#[99,50]⟩,.string ⟨#[115,111]⟩,.string ⟨#[105,102,102]⟩,.string ⟨#[116,114,101,101]⟩,.string ⟨#[120]⟩,.string ⟨#[108,101,116,115]⟩]) (.int .i64 r)) w=.ok (.string (aM (sg j4 r))) w:=by
 obtain rfl | rfl | rfl | rfl | rfl | rfl | rfl | rfl:r=0∨r=1∨r=2∨r=3∨r=4∨r=5∨r=6∨r=7:=by omega
 all_goals kernel_rfl
theorem TG (r:Nat)(h:r < 6)(w:World):Sem.run Tryz.prog (Instr.index 161 (.agg #[.string ⟨#[32]⟩,.string ⟨#[32,32]⟩,.string ⟨#[10]⟩,.string ⟨#[32,35,32,97,59,32,40,10]⟩,.string ⟨#[32]⟩,.string ⟨#[32,10,32]⟩]) (.int .i64 r)) w=.ok (.string (aM (sg xP r))) w:=by
 obtain rfl | rfl | rfl | rfl | rfl | rfl:r=0∨r=1∨r=2∨r=3∨r=4∨r=5:=by omega
 all_goals kernel_rfl
theorem fD (b:Nat)(w:World):Calls Tryz.prog 111 #[.int .i64 (b:Int)] w fun e w'=>e=.returned (.string (aM (bA b)))∧w'=w:=by
 obtain⟨r,a⟩:∃ r,r=b % 8:=⟨_,rfl⟩;have d:=O (show bA b=sg j4 r by rw [a];rfl);have h:Int.tmod (b:Int) 8=(r:Int):=by rw [Int.tmod_eq_emod_of_nonneg (by omega),a];omega
 have f:(b:Int) % 8=(r:Int):=by rw [a];omega
 have c:=Pw r (by omega) w;clear a;go_in
 go_wp2_with fail;go_ret;exact⟨by rw [d.o];rfl,rfl⟩
theorem dF (g:Nat)(ay:Bool)(iv:Value)(w:World)(s:bC)(xs:List NV)(nv lv:Value)(h:dY g ay iv w s xs nv lv) :
  Calls Tryz.prog 113 #[.pointer (some ⟨g,0,none⟩)] w fun e w'=>e=.returned (.string (aM (bG ay s)))∧∃ f,dY g ay iv w' (aX ay s) xs nv f∧Mv g nv.ownBlock w nv.ownBlock w':=by
 have H:=O h;have c3:=h.blk.cell 3;have n:=h.lt;clear h;cases ay
 ·go_in
  go_wp2_with fail;go_ret;exact⟨rfl,_,H.o,Mv.refl⟩
 obtain⟨r,d⟩:∃ r,r=s.nx % 6:=⟨_,rfl⟩;have l:=O (show bG true s=sg xP r by rw [d];rfl);obtain⟨b,c⟩:∃ b,b=s.nx:=⟨_,rfl⟩;have t:Int.tmod (b:Int) 6=(r:Int):=by rw [Int.tmod_eq_emod_of_nonneg (by omega),d,c];omega
 have q:(b:Int) % 6=(r:Int):=by rw [d,c];omega
 have a:=TG r (by omega);have k:=O c;clear d c;go_in
 go_wp2_with fail;refine (bU g true iv _ s xs nv _ H.o).mono ?_;rintro e w1⟨rfl,f,h1,i⟩;have j:=O h1;have m:=O i;clear h1 i;rw [← k.o]
 replace a:=a w1
 go_wp2_with fail;go_ret;exact⟨by rw [l.o];rfl,_,j.o,m.o⟩
end Go.Proofs.YthepmkjggfijoaaGreatDoor
namespace Mist
theorem L9 (t r:Bs)(q:r=[]∨∃ c u,r=c :: u∧dI c=false)(h0:0 < t.length)(f:dP (gt t 0)=true)(j:t.all dI=true)(n:first t ≠ (0,[])):first (t ++ r)=first t:=by
 have m:=lQ dI t r j q;have b:=lQ dI t [] j (.inl rfl);rw [List.append_nil] at b
 have k:gt (t ++ r) 0=gt t 0:=by cases t <;> simp_all [gt]
 have a:(t ++ r).take (aV dI (t ++ r))=t:=by rw [m];simp
 have h:t.take (aV dI t)=t:=by rw [b];simp
 have l:¬ (t ++ r).length=0:=by rw [aaO];omega
 have d:¬ t.length=0:=by omega
 by_cases e:hasB keywords t=true
 ·rw [jI _ l (by rw [k];exact f) (by rw [a];exact e),jI _ d f (by rw [h];exact e),a,h]
 ·by_cases i:t.length≤12
  ·rw [iD _ l (by rw [k];exact f) (by rw [a];exact e) (by rw [m];exact i),iD _ d f (by rw [h];exact e) (by rw [b];exact i),a,h]
  ·exact absurd (jE _ d f (by rw [h];exact e) (by rw [b];exact i)) n
theorem O7 (t r:Bs)(l:r=[]∨∃ c n,r=c :: n∧aQ c=false)(h0:0 < t.length)(i:dP (gt t 0)=false)(hd:aQ (gt t 0)=true)(e:t.all aQ=true)(h:g_ t=true):first (t ++ r)=first t:=by
 have m:=lQ aQ t r e l;have b:=lQ aQ t [] e (.inl rfl);rw [List.append_nil] at b
 have f:gt (t ++ r) 0=gt t 0:=by cases t <;> simp_all [gt]
 have a:(t ++ r).take (aV aQ (t ++ r))=t:=by rw [m];simp
 have j:t.take (aV aQ t)=t:=by rw [b];simp
 have k:¬ (t ++ r).length=0:=by rw [aaO];omega
 have d:¬ t.length=0:=by omega
 rw [iJ _ k (by rw [f];simp [i]) (by rw [f];exact hd) (by rw [a];exact h),iJ _ d (by simp [i]) hd (by rw [j];exact h),a,j]
def Qp (E:Bs):List (Bs × Nat × Bs)→Prop
 | []=>True
 | (g,k,t) :: r=>skip (g ++ (t ++ (aN r ++ E)))=g.length∧first (t ++ (aN r ++ E))=(k,t)∧k ≠ 0∧0 < t.length∧Qp E r
theorem DV (E:Bs)(d:skip E=E.length)(its:List (Bs × Nat × Bs)):∀ (a:Bs),Qp E its→Placed (a ++ (aN its ++ E)) (a.length+skip (aN its ++ E)) (fO a.length its):=by
 induction its with
 | nil=>intro a _;show (a ++ (aN [] ++ E)).length≤_;simp [aN,d]
 | cons x r j =>
  obtain⟨g,k,t⟩:=x;intro a f;obtain⟨h1,h2,h3,h4,h5⟩:=f;have c:=j (a ++ g ++ t) h5;have e:a ++ (aN ((g,k,t) :: r) ++ E)=(a ++ g ++ t) ++ (aN r ++ E):=by simp [aN]
  have i:skip (aN ((g,k,t) :: r) ++ E)=g.length:=by
   rw [← h1];simp [aN]
  rw [i,e]
  have hd:((a ++ g ++ t) ++ (aN r ++ E)).drop (a.length+g.length)=t ++ (aN r ++ E):=by
   rw [List.append_assoc (a ++ g),List.drop_append_of_le_length (by simp)];simp
  have b:((a ++ g ++ t) ++ (aN r ++ E)).drop (a.length+g.length+t.length)=aN r ++ E:=by
   rw [show a.length+g.length+t.length=(a ++ g ++ t).length by simp;omega];simp
  have h:(a ++ g ++ t).length=a.length+g.length+t.length:=by simp;omega
  rw [h] at c
  refine⟨?_,rfl,by rw [hd];exact h2,h3,?_⟩
  ·simp;omega
  ·show Placed _ (a.length+g.length+t.length+skip (List.drop (a.length+g.length+t.length) _)) _
   rw [b];exact c
def NU (r:Bs):Prop:=r=[]∨∃ c r',r=c :: r'∧dI c=false
def QD (r:Bs):Prop:=∃ c r',r=c :: r'∧(c=32∨c=10)
theorem QD.np {r:Bs}(h:QD r):NU r:=by
 obtain⟨c,a,rfl,rfl | rfl⟩:=h <;> exact .inr ⟨_,_,rfl,by decide⟩
def vW (g:Bs):Prop:=(∀ r,skip (g ++ r)=g.length+skip r)∧g.all gV=true
theorem aY:vW []:=⟨fun r=>by simp,rfl⟩
theorem vW.append {g h:Bs}(a:vW g)(b:vW h):vW (g ++ h) :=
 ⟨fun r=>by rw [List.append_assoc,a.1,b.1,aaO];omega,by rw [List.all_append,a.2,b.2];rfl⟩
theorem jH:vW [32]:=⟨fun r=>by show gK false (32 :: r)=_;rw [gK,if_pos (by decide)];rfl,by decide⟩
theorem Gc:vW [10]:=⟨fun r=>by show gK false (10 :: r)=_;rw [gK,if_pos (by decide)];rfl,by decide⟩
theorem RL:∀ g ∈ xP,vW g∧∃ c b,g=c :: b∧(c=32∨c=10):=by
 intro g a
 have h6:vW [32,35,32,97,59,32,40,10]:=⟨fun r=>by
  show gK false (32 :: 35 :: 32 :: 97 :: 59 :: 32 :: 40 :: 10 :: r)=_
  rw [gK,if_pos (by decide),gK,if_neg (by decide),if_pos (by decide),gK,if_neg (by decide),gK,if_neg (by decide),gK,if_neg (by decide),gK,if_neg (by decide),gK,if_neg (by decide),gK,if_pos (by decide)]
  show _=8+gK false r
  omega,by decide⟩
 unfold xP at a
 simp only [List.mem_cons,List.not_mem_nil,or_false] at a
 rcases a with rfl | rfl | rfl | rfl | rfl | rfl
 ·exact⟨jH,_,_,rfl,.inl rfl⟩
 ·exact⟨jH.append jH,_,_,rfl,.inl rfl⟩
 ·exact⟨Gc,_,_,rfl,.inr rfl⟩
 ·exact⟨h6,_,_,rfl,.inl rfl⟩
 ·exact⟨jH,_,_,rfl,.inl rfl⟩
 ·exact⟨(jH.append Gc).append jH,_,_,rfl,.inl rfl⟩
theorem wD (l:List Bs)(i:Nat)(h:i < l.length):sg l i ∈ l:=by rw [IY l i h];exact List.getElem_mem h
theorem bS (ay:Bool)(s:bC):vW (bG ay s)∧∃ c a,bG ay s=c :: a∧(c=32∨c=10):=by
 unfold bG;split
 ·exact RL _ (wD xP _ (by show s.nx % 6 < 6;omega))
 ·exact⟨jH,_,_,rfl,.inl rfl⟩
theorem BP (ay:Bool)(s:bC)(r:Bs):QD (bG ay s ++ r):=by
 obtain⟨_,c,b,h,a⟩:=bS ay s;exact⟨c,b ++ r,by rw [h];rfl,a⟩
structure CJ (k:Nat) (t r:Bs):Prop where
 first:Mist.first (t ++ r)=(k,t)
 kind:k ≠ 0
 pos:0 < t.length
 skip:Mist.skip (t ++ r)=0
 valid:t.all gV=true
theorem skip_c (b:UInt8)(r:Bs)(h1:pR b=false)(h2:(b == 35)=false):skip (b :: r)=0:=by
 unfold skip;rw [gK,if_neg (by simp [h1]),if_neg (by simp [h2])]
def yx (t:Bs):Bool:=match t with
 | []=>false
 | b :: _=>!pR b && !(b == 35)
theorem tX {t r:Bs}(h:yx t=true):skip (t ++ r)=0:=by
 cases t with
 | nil=>cases h
 | cons b t =>
  unfold yx at h
  rw [aaS] at h
  exact skip_c b _ (by simpa using h.1) (by simpa using h.2)
def xW (k:Nat)(t:Bs):Bool:=decide (0 < t.length) && dP (gt t 0) && t.all dI && (first t == (k,t)) && (k != 0) && t.all gV && yx t
theorem bR {k:Nat}{t r:Bs}(h:xW k t=true)(a:NU r):CJ k t r:=by
 unfold xW at h
 simp only [aaS,decide_eq_true_eq,bne_iff_ne,beq_iff_eq] at h
 obtain⟨⟨⟨⟨⟨⟨h0,h1⟩,h2⟩,h3⟩,h4⟩,h5⟩,h6⟩:=h;exact⟨by rw [L9 t r a h0 h1 h2 (by rw [h3];intro e;injection e with e;exact h4 e),h3],h4,h0,tX h6,h5⟩
def Xh (t:Bs):Bool:=decide (0 < t.length) && !dP (gt t 0) && aQ (gt t 0) && t.all aQ && g_ t && (first t == (2,t)) && t.all gV && yx t
theorem KS {c:UInt8}(h:dI c=false):aQ c=false:=by
 unfold dI at h
 cases hd:aQ c
 ·rfl
 ·rw [hd] at h;simp at h
theorem NU.digit {r:Bs}(h:NU r):r=[]∨∃ c a,r=c :: a∧aQ c=false:=by
 rcases h with h | ⟨c,a,h,b⟩
 ·exact .inl h
 ·exact .inr ⟨c,a,h,KS b⟩
theorem Gp {t r:Bs}(h:Xh t=true)(a:NU r):CJ 2 t r:=by
 unfold Xh at h
 simp only [aaS,decide_eq_true_eq,beq_iff_eq] at h
 obtain⟨⟨⟨⟨⟨⟨⟨h0,h1⟩,h2⟩,h3⟩,h4⟩,h5⟩,h6⟩,h7⟩:=h;exact⟨by rw [O7 t r a.digit h0 (by simpa using h1) h2 h3 h4,h5],by decide,h0,tX h7,h6⟩
theorem AA (x:UInt8)(h:x ∈ [40,41,91,93,123,125,44,59,58,43,45,42,47,37])(r:Bs):CJ 4 [x] r:=by
 have h1:∀ x ∈ ([40,41,91,93,123,125,44,59,58,43,45,42,47,37]:List UInt8),dP x=false∧aQ x=false∧yx [x]=true∧[x].all gV=true∧first [x]=(4,[x])∧∀ n:Fin 256,first [x,UInt8.ofNat n.val]=(4,[x]):=by decide +kernel
 obtain⟨a,b,c,d,e,f⟩:=h1 x h
 refine⟨?_,by decide,by simp,tX c,d⟩
 cases r with
 | nil=>exact e
 | cons y r =>
  show first (x :: y :: r)=_
  rw [oo _ _ _ a b]
  have:=f ⟨y.toNat,y.toNat_lt⟩
  rwa [show UInt8.ofNat y.toNat=y by simp] at this
theorem C_ (x y:UInt8)(h:(x,y) ∈ ([(61,61),(33,61),(60,61),(62,61),(46,46)]:List (UInt8 × UInt8)))(r:Bs):CJ 4 [x,y] r:=by
 have h1:∀ p ∈ ([(61,61),(33,61),(60,61),(62,61),(46,46)]:List (UInt8 × UInt8)),dP p.1=false∧aQ p.1=false∧yx [p.1,p.2]=true∧[p.1,p.2].all gV=true∧first [p.1,p.2]=(4,[p.1,p.2]):=by decide +kernel
 obtain⟨a,b,c,d,e⟩:=h1 _ h
 refine⟨?_,by decide,by simp,tX c,d⟩
 show first (x :: y :: r)=_
 rw [oo _ _ _ a b];exact e
theorem En (x z:UInt8)(h:(x,z) ∈ ([(61,61),(60,61),(62,61),(46,46)]:List (UInt8 × UInt8)))(y:UInt8)(r:Bs)(hy:y ≠ z):CJ 4 [x] (y :: r):=by
 have h1:∀ p ∈ ([(61,61),(60,61),(62,61),(46,46)]:List (UInt8 × UInt8)),dP p.1=false∧aQ p.1=false∧yx [p.1]=true∧[p.1].all gV=true∧∀ n:Fin 256,UInt8.ofNat n.val ≠ p.2→first [p.1,UInt8.ofNat n.val]=(4,[p.1]):=by decide +kernel
 obtain⟨a,b,c,d,f⟩:=h1 _ h
 refine⟨?_,by decide,by simp,tX c,d⟩
 show first (x :: y :: r)=_
 rw [oo _ _ _ a b]
 have:=f ⟨y.toNat,y.toNat_lt⟩
 rw [show UInt8.ofNat y.toNat=y by simp] at this
 exact this hy
def lu:bN→Bs→Prop
 | [],_=>True
 | (g,k,t) :: I,r=>vW g∧CJ k t (aN I ++ r)∧lu I r
theorem bJ:∀ (I J:bN) (r:Bs),lu I (aN J ++ r)→lu J r→lu (I ++ J) r
 | [],_,_,_,h=>h
 | (g,k,t) :: I,J,r,⟨h1,h2,h3⟩,h=>⟨h1,by
  show CJ k t (aN (I ++ J) ++ r)
  rw [qZ,List.append_assoc];exact h2,bJ I J r h3 h⟩
theorem MH (E:Bs):∀ I:bN,lu I E→Qp E I
 | [],_=>trivial
 | (g,k,t) :: I,⟨h1,h2,h3⟩=>⟨by rw [h1.1,h2.skip];rfl,h2.first,h2.kind,h2.pos,MH E I h3⟩
theorem Bq (E:Bs):∀ I:bN,lu I E→(aN I).all gV=true
 | [],_=>rfl
 | (g,k,t) :: I,⟨h1,h2,h3⟩=>by
  show (g ++ (t ++ aN I)).all gV=true
  rw [List.all_append,List.all_append,h1.2,h2.valid,Bq E I h3];rfl
theorem xS (I:bN)(E:Bs)(h:lu I E)(d:skip E=E.length)(hv:E.all gV=true)(k:I.length≤800)(j:(aN I ++ E).length≤2000):Mist.read (aN I ++ E)=(fO 0 I,0,0):=by
 have c:=DV E d I [] (MH E I h);simp only [List.nil_append,List.length_nil,Nat.zero_add] at c
 have a:(aN I ++ E).all gV=true:=by rw [List.all_append,Bq E I h,hv];rfl
 have f:(check (aN I ++ E)).2=0:=by
  unfold check;rw [if_neg (by omega)]
  have:(aN I ++ E).findIdx? (fun b=>!gV b)=none:=by
   rw [List.findIdx?_eq_none_iff];intro x i;rw [aaR.1 a x i];rfl
  rw [this]
 have e:Mist.read (aN I ++ E)=dJ ((aN I ++ E).length+1) (aN I ++ E) (skip (aN I ++ E)) []:=by unfold Mist.read;rw [if_neg (by simpa using f)]
 rw [e,jW _ _ _ _ [] (by omega) (by simp [mW];omega) c];rfl
def abh (I:bN):Prop:=∀ r,NU r→lu I r
def GV (I:bN):Prop:=∃ k t R,I=([],k,t) :: R∧∃ c t',t=c :: t'∧c ≠ 61∧c ≠ 46
structure Ap (I:bN):Prop where
 good:abh I
 start:GV I
theorem bn {g:Bs}{k:Nat}{t:Bs}{I:bN}{r:Bs}(a:vW g)(b:CJ k t (aN I ++ r))(h:lu I r):lu ((g,k,t) :: I) r:=⟨a,b,h⟩
theorem np_c {c:UInt8}{r:Bs}(h:dI c=false):NU (c :: r):=.inr ⟨c,r,rfl,h⟩
theorem GV.text {I:bN}(h:GV I)(g:Bs):aN (bN.on g I)=g ++ aN I:=by
 obtain⟨k,t,R,rfl,_⟩:=h
 show (g ++ []) ++ (t ++ aN R)=g ++ ([] ++ (t ++ aN R))
 simp
theorem Ap.on {I:bN}(h:Ap I){g:Bs}(a:vW g):abh (bN.on g I):=by
 intro r b;have h1:=h.good r b;obtain⟨k,t,R,rfl,_⟩:=h.start;obtain⟨_,h2,h3⟩:=h1;exact⟨by show vW (g ++ []);rw [List.append_nil];exact a,h2,h3⟩
theorem GV.ne {I:bN}(h:GV I)(g:Bs)(r:Bs):∃ c a,aN I ++ r=c :: a∧c ≠ 61∧c ≠ 46:=by
 obtain⟨k,t,R,rfl,c,b,rfl,h1,h2⟩:=h;exact⟨c,_,rfl,h1,h2⟩
theorem bM {x:UInt8}(h:x ∈ [40,41,91,93,123,125,44,59,58,43,45,42,47,37]){g:Bs}(b:vW g){I:bN}{r:Bs}(a:lu I r):lu ((g,4,[x]) :: I) r:=bn b (AA x h _) a
theorem wK (ay:Bool){I:bN}(s:bC)(h:abh I):Ap (fK ay I s):=by
 unfold fK;split
 ·refine⟨fun r _=>?_,_,_,_,rfl,_,_,rfl,by decide,by decide⟩
  refine bM (by decide) aY (bM (by decide) aY (bJ I _ r (h _ ?_) (bM (by decide) (bS ay _).1 (bM (by decide) aY trivial))))
  show NU ((bG ay s.tl ++ ([41] ++ _)) ++ r)
  rw [List.append_assoc];exact (BP ay _ _).np
 ·refine⟨fun r _=>?_,_,_,_,rfl,_,_,rfl,by decide,by decide⟩
  exact bM (by decide) aY (bJ I _ r (h _ (np_c (by decide))) (bM (by decide) aY trivial))
theorem Uz:∀ x ∈ j4,xW 1 x=true:=by decide +kernel
theorem o8 (b:Nat):xW 1 (bA b)=true:=Uz _ (wD j4 _ (by show b % 8 < 8;omega))
theorem JO:∀ x ∈ j4,∃ c b,x=c :: b∧c ≠ 61∧c ≠ 46:=by
 intro x a;unfold j4 at a
 simp only [List.mem_cons,List.not_mem_nil,or_false] at a
 rcases a with rfl | rfl | rfl | rfl | rfl | rfl | rfl | rfl <;> exact⟨_,_,rfl,by decide,by decide⟩
theorem jU (b:Nat):∃ c a,bA b=c :: a∧c ≠ 61∧c ≠ 46:=JO _ (wD j4 _ (by show b % 8 < 8;omega))
theorem Nj:∀ n:Fin 140,Xh (Go.Lib.itoa ((n.val:Nat):Int))=true∧((Go.Lib.itoa ((n.val:Nat):Int)).headD 0 != 61 && (Go.Lib.itoa ((n.val:Nat):Int)).headD 0 != 46)=true:=by decide +kernel
theorem wu (n:Nat)(h:n < 140):Xh (Go.Lib.itoa (n:Int))=true:=(Nj ⟨n,h⟩).1
theorem O6 (n:Nat)(h:n < 140):∃ c b,Go.Lib.itoa (n:Int)=c :: b∧c ≠ 61∧c ≠ 46:=by
 have h1:=wu n h;have h2:=(Nj ⟨n,h⟩).2
 cases a:Go.Lib.itoa (n:Int) with
 | nil=>rw [a] at h1;exact absurd h1 (by decide)
 | cons c t =>
  have h2:((Go.Lib.itoa (n:Int)).headD 0 != 61 && (Go.Lib.itoa (n:Int)).headD 0 != 46)=true:=h2;rw [a] at h2
  simp only [List.headD_cons,aaS,bne_iff_ne] at h2
  exact⟨c,t,rfl,h2.1,h2.2⟩
theorem O4 (n:Nat):fI (n:Int)=[([],2,Go.Lib.itoa (n:Int))]:=by unfold fI;rw [if_neg (by omega)]
theorem yM (n:Int)(h1:-140 < n)(h2:n < 140):abh (fI n)∧GV (fI n):=by
 unfold fI;split
 ·obtain⟨m,a⟩:∃ m:Nat,-n=(m:Int):=⟨(-n).toNat,by omega⟩;rw [a];exact⟨fun r b=>bM (by decide) aY (bn aY (Gp (wu m (by omega)) (by simpa [aN] using b)) trivial),_,_,_,rfl,_,_,rfl,by decide,by decide⟩
 ·obtain⟨m,a⟩:∃ m:Nat,n=(m:Int):=⟨n.toNat,by omega⟩;rw [a];obtain⟨c,d,h3,h4⟩:=O6 m (by omega);exact⟨fun r b=>bn aY (Gp (wu m (by omega)) (by simpa [aN] using b)) trivial,_,_,_,rfl,c,d,h3,h4⟩
theorem ET (b:Nat)(e:b < 60)(s:bC):Ap (lF b s).pc:=by
 unfold lF;split
 ·obtain⟨h1,h2⟩:=yM ((b * 7:Nat):Int) (by omega) (by omega);exact⟨h1,h2⟩
 ·split
  ·refine⟨fun r a=>bn aY (bR ?_ (by simpa [aN] using a)) trivial,?_⟩
   ·split <;> decide
   ·split <;> exact⟨_,_,_,rfl,_,_,rfl,by decide,by decide⟩
  ·refine⟨fun r a=>bn aY (bR (o8 b) (by simpa [aN] using a)) trivial,?_⟩
   obtain⟨c,d,h3,h4⟩:=jU b;exact⟨_,_,_,rfl,c,d,h3,h4⟩
theorem op_ok (k:Nat)(d:k < 13){r:Bs}(e:QD r):CJ (opK k) (sg gL k) r:=by
 obtain⟨c,f,rfl,a⟩:=e;have h61:c ≠ 61:=by rcases a with rfl | rfl <;> decide
 have b:NU (c :: f):=np_c (by rcases a with rfl | rfl <;> decide)
 match k,d with
 | 0,_=>exact AA 43 (by decide) _
 | 1,_=>exact AA 45 (by decide) _
 | 2,_=>exact AA 42 (by decide) _
 | 3,_=>exact AA 47 (by decide) _
 | 4,_=>exact AA 37 (by decide) _
 | 5,_=>exact C_ 61 61 (by decide) _
 | 6,_=>exact C_ 33 61 (by decide) _
 | 7,_=>exact En 60 61 (by decide) _ _ h61
 | 8,_=>exact C_ 60 61 (by decide) _
 | 9,_=>exact En 62 61 (by decide) _ _ h61
 | 10,_=>exact C_ 62 61 (by decide) _
 | 11,_=>exact bR (by decide) b
 | 12,_=>exact bR (by decide) b
end Mist
namespace Go.Proofs.YthepmkjggfijoaaGreatDoor
open Go.RowKit Mist
attribute [local go_sem] aj aH aS aB ak
theorem dH (g:Nat)(ay:Bool)(iv:Value)(w:World)(s:bC)(xs:List NV)(nv lv:Value)(h:dY g ay iv w s xs nv lv)(K:Nat)(x:Bs)(N:Int)(E:Value)(a:List Int)(q:cB w E a)(R:s.ns.length≤1000000) :
  Calls Tryz.prog 114 #[.pointer (some ⟨g,0,none⟩),.agg #[.int .u8 K,.string (aM x),.int .i64 N,E,.int .i64 0]] w fun e w'=>e=.returned (.int .i64 s.id)∧∃ eO,dY g ay iv w' (s.put ⟨K,x,N,a,0⟩) (xs ++ [(⟨K,x,N,a,0⟩,E)]) eO lv∧Mv g nv.ownBlock w eO.ownBlock w':=by
 obtain⟨A,c,rfl⟩:=dh q;obtain⟨T,r,y,B,C⟩:=info_parts rW;have I:s.id=(xs.length:Int):=by unfold bC.id;rw [h.len]
 rw [I];rw [← h.len] at R
 clear I;have H:=O h;clear h;have J:=O q;clear q;have Q:=H.o.lt;have c3:=H.o.blk.cell 1;have U:=H.o.blk.frozen 1;obtain⟨f,i⟩:∃ f,f=a.length:=⟨_,rfl⟩;rw [← i];have m:=O i;clear i;have S:¬ w.heap.size=g:=by omega
 go_in
 go_wp2_with fail
 go_region_law ((refine step_append_lies _ (by rfl) _ _ _ (by rfl) g 50 T _ 5 64 Tryz.underlying23 r y B C rfl (by omega) _ xs.length (iO xs) (by rfl) (((H.o.own.alloc _).alloc _).drew)
                  ⟨w.heap.size+1,0,none⟩ 1 1 (fC (⟨K,x,N,a,0⟩,.slice A f c)) (by rfl) (by rfl) (World.news_of_block (cs:=#[.int .u8 K,.string (aM x),.int .i64 N,.slice A f c,.int .i64 0]) (t:=50) (fr:=(0,0)) (yZ w _ _)) (by intro u G;simp [fC] at G;rcases G with rfl | rfl | rfl | rfl | rfl <;> rfl)
                  (by omega) (by simp only [maxLen];omega) (by omega) (by simp;omega) (w.heap.size+2) (by simp) ?_;intro V M w1 d b k F;have D:=((H.o.alloc (.cells #[.int .u8 K,.string (aM x),.int .i64 N,.slice A f c,.int .i64 0] 50)).alloc (.cells #[.int .u8 K,.string (aM x),.int .i64 N,.slice A f c,.int .i64 0] 50)).drew.blk.grown b (fun e=>aT H.o.own H.o.blk (by decide) e.symm);have L:=D.cell 1;have P:=D.frozen 1;clear D))
 all_goals
  have j:=O b;clear b;have n:=O d;clear d;have l:=O k;clear k;go_wp2;go_ret
  refine⟨by (first | rfl|(congr 2;omega)),_,dY.add ((H.o.alloc (.cells #[.int .u8 K,.string (aM x),.int .i64 N,.slice A f c,.int .i64 0] 50)).alloc (.cells #[.int .u8 K,.string (aM x),.int .i64 N,.slice A f c,.int .i64 0] 50)).drew j.o n.o (m.o ▸ own_below J.o (Below.drew (ah (ah (Below.refl _ _) (aaJ _)) (by simp)))),?_⟩
  refine Mv.gset ?_;refine Mv.trans (r1:=nv.ownBlock) (Mv.dD (Mv.dD Mv.refl)).Zp (Mv.grown j.o ?_);rcases l.o with e | e
  ·left;rw [e];rfl
  ·right;rw [e];simp [Value.ownBlock]
def xU (ay:Bool)(t:Bs)(s:bC):Bs:=if ay=true∧s.nx % 4=0 then [40,40] ++ t ++ bG ay s.tl ++ [41,41] else [40] ++ t ++ [41]
theorem qU (ay:Bool)(I:bN)(s:bC):aN (fK ay I s)=xU ay (aN I) s:=by
 unfold fK xU;split
 ·rw [List.cons_append,List.cons_append]
  show [] ++ ([40] ++ ([] ++ ([40] ++ aN (I ++ _))))=_
  rw [qZ]
  show _=[40,40] ++ aN I ++ bG ay s.tl ++ [41,41]
  simp [aN,bP]
 ·show [] ++ ([40] ++ aN (I ++ _))=_
  rw [qZ];simp [aN,bP]
theorem eU (ay:Bool)(s:bC):(bG ay s).length≤8:=by
 unfold bG;split
 ·have:∀ g ∈ xP,g.length≤8:=by decide
  exact this _ (wD xP _ (by show s.nx % 6 < 6;omega))
 ·decide
theorem K3 (g:Nat)(ay:Bool)(iv:Value)(w:World)(s:bC)(xs:List NV)(nv lv:Value)(h:dY g ay iv w s xs nv lv)(t:Bs)(M:t.length≤1000000000) :
  Calls Tryz.prog 195 #[.pointer (some ⟨g,0,none⟩),.string (aM t)] w fun e w'=>e=.returned (.string (aM (xU ay t s)))∧∃ q,dY g ay iv w' (gX ay s) xs nv q∧Mv g nv.ownBlock w nv.ownBlock w':=by
 have H:=O h;have c3:=h.blk.cell 3;have E:=h.lt;clear h;cases ay
 ·have I:¬ 9223372036854775807 < 1+t.length:=by omega
  have J:¬ 9223372036854775807 < 1+t.length+1:=by omega
  go_in
  go_wp2_with fail;go_ret;exact⟨congrArg (fun x=>Ending.returned (.string x)) (show _=aM ([40] ++ t ++ [41]) from (by rw [← ak,← ak];rfl)),_,H.o,Mv.refl⟩
 have I:¬ 9223372036854775807 < 1+t.length:=by omega
 have J:¬ 9223372036854775807 < 1+t.length+1:=by omega
 have N:¬ 9223372036854775807 < 2+t.length:=by omega
 obtain⟨r,i⟩:∃ r,r=s.nx % 4:=⟨_,rfl⟩;have c:=O i;obtain⟨b,f⟩:∃ b,b=s.nx:=⟨_,rfl⟩;have L:Int.tmod (b:Int) 4=(r:Int):=by rw [Int.tmod_eq_emod_of_nonneg (by omega),i,f];omega
 have F:(b:Int) % 4=(r:Int):=by rw [i,f];omega
 have u:=O f;clear i f;by_cases h0:r=0
 ·subst h0;have d:=O (show xU true t s=[40,40] ++ t ++ bG true s.tl ++ [41,41] by unfold xU;rw [if_pos ⟨rfl,c.o.symm⟩]);have k:=O (show gX true s=aX true s.tl by unfold gX;rw [if_pos rfl,if_pos c.o.symm]);have n:((((0:Nat):Int)) == 0)=true:=rfl;go_in
  go_wp2_with fail;refine (bU g true iv _ s xs nv _ H.o).mono ?_;rintro e w1⟨rfl,q,h1,a⟩;have j:=O h1;have l:=O a;clear h1 a;rw [← u.o];go_wp2_with fail;refine (dF g true iv _ s.tl xs nv _ j.o).mono ?_;rintro e w2⟨rfl,K,h2,y⟩;have A:=O h2;have B:=O (l.o.trans y);clear h2 y;have m:=eU true s.tl
  generalize D:bG true s.tl=G at m d ⊢
  have P:¬ 9223372036854775807 < 2+t.length+G.length:=by omega
  have C:¬ 9223372036854775807 < 2+t.length+G.length+2:=by omega
  clear D;go_wp2_with fail;go_ret;exact⟨congrArg (fun x=>Ending.returned (.string x)) (show _=aM (xU true t s) from (by rw [d.o,← ak,← ak,← ak];rfl)),_,by rw [k.o];exact A.o,B.o⟩
 ·have d:=O (show xU true t s=[40] ++ t ++ [41] by unfold xU;rw [if_neg (fun h=>h0 (by rw [c.o];exact h.2))]);have k:=O (show gX true s=s.tl by unfold gX;rw [if_pos rfl,if_neg (fun h=>h0 (by rw [c.o];exact h))]);have n:((r:Int) == 0)=false:=by simp;omega
  go_in
  go_wp2_with fail;refine (bU g true iv _ s xs nv _ H.o).mono ?_;rintro e w1⟨rfl,q,h1,a⟩;have j:=O h1;have l:=O a;clear h1 a;rw [← u.o];go_wp2_with fail;go_ret;exact⟨congrArg (fun x=>Ending.returned (.string x)) (show _=aM (xU true t s) from (by rw [d.o,← ak,← ak];rfl)),_,by rw [k.o];exact j.o,l.o⟩
theorem Mx (w:World)(ks:List Int)(h:ks.length≤1000:=by first|(simp;done)|(simp;omega)):cB (w.alloc (.cells (intCells ks).toArray 3)) (.slice (some ⟨w.heap.size,0,none⟩) ks.length ks.length) ks:=by
 have:=World.ownsRow_lit (base:=0) (e:=3) (size:=1) w (intCells ks).toArray ks.length (aaL _) (by simp only [maxLen];omega) (by simp [intCells])
 unfold cB
 simpa using this
theorem cB.below {w w':World}{v:Value}{ks:List Int}(h:cB w v ks)(a:Below w.heap.size w w'):cB w' v ks:=own_below h a
theorem cB.alloc {w:World}{v:Value}{ks:List Int}(h:cB w v ks)(o:Obj):cB (w.alloc o) v ks:=World.ownsRow.alloc h o
structure iL (g:Nat) (w:World) (xs:List NV) (nv:Value) (w':World) (xs':List NV) (eO:Value):Prop where
 mv:Mv g nv.ownBlock w eO.ownBlock w'
 new:∃ ys,xs'=xs ++ ys∧∀ y ∈ ys,∀ b,y.2.ownBlock=some b→w.heap.size≤b
section
variable {g:Nat} {w w1 w2:World} {xs xs1 xs2:List NV} {nv gW Qu:Value}
theorem iL.refl:iL g w xs nv w xs nv:=⟨Mv.refl,[],by simp,fun y hy=>by cases hy⟩
theorem iL.size (h:iL g w xs nv w1 xs1 gW):w.heap.size≤w1.heap.size:=h.mv.size
theorem iL.trans (h:iL g w xs nv w1 xs1 gW)(k:iL g w1 xs1 gW w2 xs2 Qu):iL g w xs nv w2 xs2 Qu:=by
 obtain⟨i,e,hy⟩:=h.new;obtain⟨j,d,f⟩:=k.new
 refine⟨h.mv.trans k.mv,i ++ j,by rw [d,e,List.append_assoc],fun y a b c=>?_⟩
 rcases List.mem_append.1 a with a | a
 ·exact hy y a b c
 ·exact Nat.le_trans h.size (f y a b c)
theorem iL.aL (h:iL g w xs nv w1 xs1 gW)(a:Below w1.heap.size w1 w2):iL g w xs nv w2 xs1 gW:=⟨h.mv.aL a,h.new⟩
theorem iL.dD {o:Obj}(h:iL g w xs nv w1 xs1 gW):iL g w xs nv (w1.alloc o) xs1 gW:=⟨h.mv.dD,h.new⟩
theorem iL.ne (h:iL g w xs nv w1 xs1 gW){b:Nat}(a:b < w.heap.size)(c:some b ≠ nv.ownBlock):some b ≠ gW.ownBlock:=h.mv.ne a c
theorem iL.blk {b:Nat}{T:TypeId}{cs:Array Value}(h:iL g w xs nv w1 xs1 gW)(a:aC w b T cs)(c:b ≠ g)(d:some b ≠ nv.ownBlock):aC w1 b T cs:=h.mv.blk a c d
theorem EM {k n c:Nat}(h:w.heap.size≤k):∀ b,(Value.slice (some ⟨k,0,none⟩) n c).ownBlock=some b→w.heap.size≤b:=fun b a=>by
 simp [Value.ownBlock] at a;omega
theorem pQ:∀ b,(Value.slice none 0 0).ownBlock=some b→w.heap.size≤b:=fun b a=>by simp [Value.ownBlock] at a
end
structure jG (w0 w:World) (xs:List NV) (v:Value) (ks:List Int):Prop where
 row:cB w v ks
 lo:∀ b,v.ownBlock=some b→w0.heap.size≤b
 far:∀ x ∈ xs,x.2.ownBlock=none∨x.2.ownBlock ≠ v.ownBlock
section
variable {g:Nat} {ay:Bool} {iv lv:Value} {w0 w w1:World} {s:bC} {xs xs1:List NV} {nv gW:Value} {v:Value} {ks:List Int}
theorem cB.lt (h:cB w v ks):∀ b,v.ownBlock=some b→b < w.heap.size:=fun b a=>(World.ownsRow.lt h b a).2
theorem jG.below (h:jG w0 w xs v ks)(a:Below w.heap.size w w1):jG w0 w1 xs v ks:=⟨cB.below h.row a,h.lo,h.far⟩
theorem jG.alloc (h:jG w0 w xs v ks)(o:Obj):jG w0 (w.alloc o) xs v ks:=⟨cB.alloc h.row o,h.lo,h.far⟩
theorem jG.mv (h:jG w0 w xs v ks)(q:dY g ay iv w s xs nv lv)(m:Mv g nv.ownBlock w gW.ownBlock w1):jG w0 w1 xs v ks:=⟨q.l6 m h.row,h.lo,h.far⟩
theorem jG.mw (h:jG w0 w xs v ks)(q:dY g ay iv w s xs nv lv)(m:iL g w xs nv w1 xs1 gW):jG w0 w1 xs1 v ks:=by
 refine⟨q.l6 m.mv h.row,h.lo,fun x a=>?_⟩
 obtain⟨c,rfl,hy⟩:=m.new;rcases List.mem_append.1 a with a | a
 ·exact h.far x a
 ·rcases h9:x.2.ownBlock with _ | b
  ·exact .inl rfl
  ·right
   intro e;have h1:=hy x a b h9;have h2:=cB.lt h.row b e.symm;omega
theorem jG.put (h:jG w0 w xs v ks)(q:dY g ay iv w s xs nv lv){x:NV}{c:bC}(a:dY g ay iv w1 c (xs ++ [x]) gW lv)(m:Mv g nv.ownBlock w gW.ownBlock w1)(b:x.2.ownBlock=none∨x.2.ownBlock ≠ v.ownBlock):jG w0 w1 (xs ++ [x]) v ks:=by
 refine⟨q.l6 m h.row,h.lo,fun y hy=>?_⟩
 rcases List.mem_append.1 hy with hy | hy
 ·exact h.far y hy
 ·rw [List.mem_singleton.1 hy];exact b
theorem jG.nil (w0 w:World)(xs:List NV):jG w0 w xs (.slice none 0 0) []:=⟨cB.none_ _,fun b a=>by simp [Value.ownBlock] at a,fun x c=>by
 rcases h9:x.2.ownBlock with _ | b
 ·exact .inl rfl
 ·right;simp [Value.ownBlock]⟩
theorem jG.made (q:dY g ay iv w s xs nv lv){k n c:Nat}(f:w.heap.size=k)(h0:w0.heap.size≤k)(h:cB (w.alloc (.cells (intCells ks).toArray 3)) (.slice (some ⟨k,0,none⟩) n c) ks):jG w0 (w.alloc (.cells (intCells ks).toArray 3)) xs (.slice (some ⟨k,0,none⟩) n c) ks:=by
 refine⟨h,fun b a=>by simp [Value.ownBlock] at a;omega,fun x d=>?_⟩
 rcases h9:x.2.ownBlock with _ | b
 ·exact .inl rfl
 ·right
  intro e;have h1:=cB.lt (q.kids x d) b h9;simp [Value.ownBlock] at e
  omega
theorem jG.empty (q:dY g ay iv w s xs nv lv){k:Nat}(a:w.heap.size=k)(h0:w0.heap.size≤k):jG w0 (w.alloc (.cells #[] 3)) xs (.slice (some ⟨k,0,none⟩) 0 0) []:=by
 subst a;exact jG.made (ks:=[]) (n:=0) (c:=0) q rfl h0 (World.ownsRow_lit (base:=0) (e:=3) (size:=1) w #[] 0 (aaL _) (by simp [maxLen]) rfl)
theorem jG.apart (h:jG w0 w xs v ks){k n c:Nat}(a:w.heap.size≤k):(Value.slice (some ⟨k,0,none⟩) n c).ownBlock=none∨(Value.slice (some ⟨k,0,none⟩) n c).ownBlock ≠ v.ownBlock:=by
 right
 intro e
 have:=cB.lt h.row k (by rw [← e];rfl)
 omega
theorem jG.grow (h:jG w0 w xs v ks){a cap:Nat}{k:Int}(q:dY g ay iv w s xs nv lv)(d:w1.ownsRow 0 3 1 (.slice (some ⟨a,0,none⟩) (ks.length+1) cap) (ks.length+1) (intCells ks ++ [.int .i64 k]))(c:v.ownBlock=some a∨a=w.heap.size)(h0:w0.heap.size≤w.heap.size):jG w0 w1 xs (.slice (some ⟨a,0,none⟩) (ks.length+1) cap) (ks ++ [k]):=by
 refine⟨?_,fun b f=>?_,fun x i=>?_⟩
 ·unfold cB;rw [aaO,eT];exact d
 ·have f:a=b:=by simpa [Value.ownBlock] using f
  subst f;rcases c with e | e
  ·exact h.lo _ e
  ·omega
 ·rcases c with e | e
  ·have:=h.far x i
   rw [e] at this
   simpa [Value.ownBlock] using this
  ·rcases h9:x.2.ownBlock with _ | b
   ·exact .inl rfl
   ·right
    intro j;have h1:=cB.lt (q.kids x i) b h9;simp [Value.ownBlock] at j
    omega
theorem dY.grow (q:dY g ay iv w s xs nv lv)(h:jG w0 w xs v ks)(a:w.grownBy w1 v.ownBlock)(h0:∀ b,v.ownBlock=some b→g≤b):dY g ay iv w1 s xs nv lv :=
 ⟨q.blk.grown a (fun e=>aT h.row q.blk (by decide) e.symm),q.seed.below ((Below.refl _ _).grown a (aaK q.lt) h0) (aaK q.lt),q.own.kept a (iE q.own h.row (by decide)),fun x c=>World.ownsRow.kept (q.kids x c) a (h.far x c),q.ns,q.pow.on ((Below.refl _ _).grown a (aaK q.lt) h0)⟩
theorem iL.grow (m:iL g w0 xs nv w xs1 gW)(h:jG w0 w xs1 v ks)(a:w.grownBy w1 v.ownBlock):iL g w0 xs nv w1 xs1 gW :=
 ⟨⟨a.os.trans m.mv.os,a.tape.trans m.mv.tape,a.output.trans m.mv.output,Nat.le_trans m.size a.size,fun b d c f=>(a.block b (aaW d m.size) (fun e=>by have:=h.lo b e.symm;omega)).trans (m.mv.block b d c f),m.mv.tgt⟩,m.new⟩
theorem jG.blk (h:jG w0 w xs v ks){b:Nat}{cs:Array Value}(a:aC w b 50 cs)(c:w.grownBy w1 v.ownBlock):aC w1 b 50 cs:=a.grown c (fun e=>aT h.row a (by decide) e.symm)
end
end Go.Proofs.YthepmkjggfijoaaGreatDoor
