/-
  A part of the proof.
-/
import Derived.Test.YthepmkjggfijoaaGreatDoorSA
import Derived.Deep.QuietTactic
import Derived.BigQuiet
import Derived.IntWalk
import Derived.Below
import Derived.Laws.OwnMore
import Derived.Deep.AppendLies
import Derived.Deep.Draws
import Derived.Laws.Rows
import Derived.Maps.AppendAt
import Derived.RegionTactic
import Derived.OwnWalk
import Derived.Deep.RegionHeld3
import Derived.StillTactics
import Derived.Laws.Pointers
import Derived.Test.YthepmkjggfijoaaGreatDoorS01
import Derived.Test.YthepmkjggfijoaaGreatDoorS05
set_option linter.all false
set_option maxRecDepth 100000
set_option maxHeartbeats 3200000
namespace Go.Proofs.YthepmkjggfijoaaGreatDoor
open Go.RowKit Mist
attribute [local go_sem] aj aH aS aB
theorem SK (l:Bs)(a:Nat)(w:World)(c:l.length≤100000000)(d:a=l.length) :
  Calls Tryz.prog 100 #[.string (aM l),.int .i64 a] w fun e w'=>e=.returned (qO (l.drop a) a)∧Below w.heap.size w w':=by
 have f:l.length≤a:=by omega
 have b:=O (lH (l.drop a) (by simp;omega));clear d;go_in
 go_wp2;refine bodyPost_ret (v:=qO (l.drop a) a) ?_ rfl ⟨rfl,((Below.refl _ _).alloc (aaJ _) _)⟩;simp only [qO,b.o];simp [results,Tryz.results100,go_sem]
 rfl
theorem gU {B:Nat}{a w:World}(h:Below B a w)(n:Nat):Below B a (w.drewN n):=h.trans ⟨rfl,rfl,rfl,aaJ _,fun _ _=>rfl⟩
theorem prefB_at (g l:Bs)(a:Nat):mO g (l.drop a)=(decide (a+g.length≤max a l.length) && ((l.take (a+g.length)).drop a == g)):=by
 rw [aaI,mO,List.isPrefixOf_iff_prefix,List.prefix_iff_eq_take,List.drop_take];simp only [Nat.add_sub_cancel_left,aaS,decide_eq_true_eq,beq_iff_eq];constructor
 ·intro h
  refine⟨?_,h.symm⟩
  have:=congrArg List.length h
  simp at this
  omega
 ·exact fun h=>h.2.symm
theorem Pk (l:Bs)(a:Nat)(w:World)(K:l.length≤100000000)(G:a < l.length)(H:dP (gt l a)=false)(hd:aQ (gt l a)=false) :
  Calls Tryz.prog 100 #[.string (aM l),.int .i64 a] w fun e w'=>e=.returned (qO (l.drop a) a)∧Below w.heap.size w w':=by
 have C:=O (show ¬ (l.drop a).length=0 by simp;omega);have E:=O (show ¬ dP (gt (l.drop a) 0)=true by rw [xX,H];decide);have D:=O (show ¬ aQ (gt (l.drop a) 0)=true by rw [xX,hd];decide);have d:=heap_alloc_new (w.alloc (Obj.cells #[Value.int IntKind.u8 0,Value.string { data:=#[] },Value.int IntKind.i64 0] 68)) (.cells (lD signs) 9);rw [World.size_alloc] at d
 have r:=O d;clear d;go_in
 go_wp2_with (first
  | (go_at_call 141;refine (sO _ _).mono ?_;rintro e w' ⟨rfl,rfl⟩)
  | (go_at_call 142;refine (qg _ _).mono ?_;rintro e w' ⟨rfl,rfl⟩)
  | (go_at_call 145;refine (SX _).mono ?_;rintro e w' ⟨rfl,rfl⟩))
 go_loopw [9] (fun i wr=>∃ n q:Nat,n≤23∧i=.int .i64 n∧Ac (l.drop a) n∧wr=((w.alloc (Obj.cells #[Value.int IntKind.u8 0,Value.string { data:=#[] },Value.int IntKind.i64 0] 68)).alloc (.cells (lD signs) 9)).drewN q) (fun i _=>23 - (intOf i).toNat)
 case atStart=>exact⟨0,0,aaL _,rfl,EJ _,rfl⟩
 case round =>
  obtain⟨n,q,L,rfl,j,rfl⟩:=hrel;have k:=O j;clear j;by_cases b:n < 23
  ·have J:=FN r.o n (show n < signs.length from b);have c:=prefB_at (sg signs n) l a
   have I:(sg signs n).length≤2:=by
    have:∀ g ∈ signs,g.length≤2:=by decide
    refine this _ ?_;rw [IY _ _ (show n < signs.length from b)];exact List.getElem_mem _
   by_cases F:a+(sg signs n).length≤l.length
   ·have y:(a:Int)+((sg signs n).length:Int)≤(l.length:Int):=by omega
    have h:max a l.length=l.length:=by omega
    rw [h] at c
    rw [aaU F,Bool.true_and] at c
    have m:=O c;clear c;clear h;go_wp2;have M:((a:Int)+((sg signs n).length:Int)).toNat=a+(sg signs n).length:=by omega
    have h00:0≤(a:Int)+((sg signs n).length:Int):=by omega
    have f:IntKind.i64.wrap ((a:Int)+((sg signs n).length:Int))=(a:Int)+((sg signs n).length:Int):=IntWalk.i64_in _ (by omega);go_quiet (fail)
    clear f;go_wp2
    ·have x:((l.take (a+(sg signs n).length)).drop a == sg signs n)=true:=by assumption
     have u:=O (iN _ C.o E.o D.o _ (IZ (l.drop a) n b k.o (by rw [m.o];exact x)));refine bodyPost_ret (v:=qO (l.drop a) a) ?_ rfl ⟨rfl,by (go_grown;exact gU (by go_grown) _)⟩;simp only [qO,u.o];simp [results,Tryz.results100,go_sem]
     rfl
    ·have x:((l.take (a+(sg signs n).length)).drop a == sg signs n)=false:=by assumption
     exact⟨⟨n+1,_,by omega,by go_num,yF _ n b k.o (by rw [m.o];exact x),rfl⟩,by simp [intOf];omega⟩
   ·have y:(decide ((a:Int)+((sg signs n).length:Int)≤(l.length:Int)))=false:=by simp;omega
    have h:max a l.length=l.length:=by omega
    rw [h] at c
    rw [aaV F,Bool.false_and] at c
    have m:=O c;clear c;clear h;go_wp2;have f:IntKind.i64.wrap ((a:Int)+((sg signs n).length:Int))=(a:Int)+((sg signs n).length:Int):=IntWalk.i64_in _ (by omega);go_quiet (fail)
    clear f;go_wp2;exact⟨⟨n+1,_,by omega,by go_num,yF _ n b k.o m.o,rfl⟩,by simp [intOf];omega⟩
  ·have e:n=23:=by omega
   have u:=O (iM _ C.o E.o D.o (ES (l.drop a) (e ▸ k.o)));clear e;go_wp2;refine bodyPost_ret (v:=qO (l.drop a) a) ?_ rfl ⟨rfl,by (go_grown;exact gU (by go_grown) _)⟩;simp only [qO,u.o];simp [results,Tryz.results100,go_sem]
   rfl
theorem II (l:Bs)(a:Nat)(w:World)(b:l.length≤100000000)(d:a≤l.length) :
  Calls Tryz.prog 100 #[.string (aM l),.int .i64 a] w fun e w'=>e=.returned (qO (l.drop a) a)∧Below w.heap.size w w':=by
 rcases Nat.lt_or_ge a l.length with h | h
 ·cases c:dP (gt l a)
  ·cases hd:aQ (gt l a)
   ·exact Pk l a w b h c hd
   ·exact MV l a w b h c hd
  ·exact MW l a w b h c
 ·exact SK l a w b (by omega)
end Go.Proofs.YthepmkjggfijoaaGreatDoor
namespace Go.Proofs.YthepmkjggfijoaaGreatDoor
open Go.RowKit Mist
attribute [local go_sem] aj aH aS aB ak
def Rx (l:Bs)(a:Nat):Int:=if (first l).1=0 then 0 else a
theorem P5 (l:Bs)(a:Nat):qO l a=.agg #[.int .u8 (first l).1,.string (aM (first l).2),.int .i64 (Rx l a)]:=by
 unfold qO Rx Tq;by_cases h:(first l).1=0
 ·rw [if_pos h,if_pos h,RB l h,h]
 ·rw [if_neg h,if_neg h]
theorem Ay (l:Bs)(a:Nat)(w:World)(c:l.length≤100000000)(b:a≤l.length) :
  Calls Tryz.prog 100 #[.string (aM l),.int .i64 a] w fun e w' =>
   e=.returned (.agg #[.int .u8 (first (l.drop a)).1,.string (aM (first (l.drop a)).2),.int .i64 (Rx (l.drop a) a)])∧Below w.heap.size w w' :=
 (II l a w c b).mono fun e w' h=>⟨by rw [h.1,P5],h.2⟩
theorem Pm (l:Bs)(w:World)(a:l.length≤100000000) :
  Calls Tryz.prog 100 #[.string (aM l),.int .i64 0] w fun e w' =>
   e=.returned (.agg #[.int .u8 (first l).1,.string (aM (first l).2),.int .i64 0])∧Below w.heap.size w w' :=
 (II l 0 w a (aaL _)).mono fun e w' h=>⟨by rw [h.1,P5,List.drop_zero];simp [Rx],h.2⟩
theorem Pj {l:Bs}{a b:Int}(c:a=kind l)(d:b=iV l):Ending.returned (.tuple #[.int .u8 a,.int .i64 b])=.returned (.tuple #[.int .u8 (kind l),.int .i64 (iV l)]):=by
 rw [c,d]
theorem Ia (l:Bs):((((first l).1:Int) == 0)=true∧kind l=0∧iV l=4)∨((((first l).1:Int) == 0)=false∧((first l).2 == l)=false∧kind l=0∧iV l=4) ∨
  ((((first l).1:Int) == 0)=false∧((first l).2 == l)=true∧kind l=(first l).1∧iV l=0):=by
 by_cases h:(first l).1=0
 ·have:kind l=0:=by unfold kind;rw [h];simp
  exact .inl ⟨by simp [h],this,by simp [iV,this]⟩
 ·by_cases g:(first l).2=l
  ·have:kind l=(first l).1:=by unfold kind;rw [if_pos g]
   exact .inr (.inr ⟨by simp;omega,by simp [g],this,by simp [iV,this,h]⟩)
  ·have:kind l=0:=by unfold kind;rw [if_neg g]
   exact .inr (.inl ⟨by simp;omega,by simp [g],this,by simp [iV,this]⟩)
theorem Cr (l:Bs)(w:World)(c:Env w)(h:l.length≤100000000) :
  Calls Tryz.prog 165 #[.string (aM l)] w fun e w'=>e=.returned (.tuple #[.int .u8 (kind l),.int .i64 (iV l)])∧Below w.heap.size w w':=by
 have d:=O c;clear c;rcases Ia l with ⟨h1,a⟩ | ⟨h1,h2,a⟩ | ⟨h1,h2,a⟩
 all_goals
  have b:=O a;clear a;go_in
  go_wp2_with (go_at_call 91;refine (yY l _ d.o h).mono ?_;rintro e w' ⟨rfl,f⟩)
  go_ret2
  exact⟨Pj (by simp [b.o.1]) (by simp [b.o.2]),f⟩
theorem ze (l:Bs)(w:World)(f:l.length≤100000000) :
  Calls Tryz.prog 194 #[.string (aM l)] w fun e w'=>e=.returned (.tuple #[.int .u8 (kind l),.int .i64 (iV l)])∧Below w.heap.size w w':=by
 rcases Ia l with ⟨h1,b⟩ | ⟨h1,h2,b⟩ | ⟨h1,h2,b⟩
 case' inl=>have a:(((first l).1:Int) != 0)=false:=by simpa using h1
 case' inr.inl=>have a:(((first l).1:Int) != 0)=true:=by simpa using h1
 case' inr.inr=>have a:(((first l).1:Int) != 0)=true:=by simpa using h1
 all_goals
  have c:=O b;clear b;go_in
  go_wp2_with (go_at_call 100;refine (Pm l _ f).mono ?_;rintro e w' ⟨rfl,d⟩)
  go_ret2
  exact⟨Pj (by simp [c.o.1]) (by simp [c.o.2]),d.alloc d.size _⟩
theorem R_ (l:Bs):((iV l:Int) == 0)=!((kind l:Int) == 0):=by
 rw [aaI];unfold iV;split <;> simp_all
theorem Cm (l:Bs):(((iV l:Int) == 0)=true∧isName l=((kind l:Int) == 1))∨(((iV l:Int) == 0)=false∧isName l=false):=by
 rw [R_];by_cases h:kind l=0
 ·exact .inr ⟨by simp [h],by simp [isName,h]⟩
 ·refine .inl ⟨by simp [h],?_⟩;rw [aaI,isName];simp;omega
theorem Hq (l:Bs)(w:World)(b:Env w)(h:l.length≤100000000) :
  Calls Tryz.prog 104 #[.string (aM l)] w fun e w'=>e=.returned (.bool (isName l))∧Below w.heap.size w w':=by
 have c:=O b;clear b;rcases Cm l with ⟨h1,a⟩ | ⟨h1,a⟩
 all_goals
  have d:=O a;clear a;go_in
  go_wp2_with (go_at_call 165;refine (Cr l _ c.o h).mono ?_;rintro e w' ⟨rfl,f⟩)
  go_ret;exact⟨bD d.o.symm,f⟩
theorem Pp (l:Bs)(w:World)(d:l.length≤100000000) :
  Calls Tryz.prog 170 #[.string (aM l)] w fun e w'=>e=.returned (.bool (isName l))∧Below w.heap.size w w':=by
 rcases Cm l with ⟨h1,a⟩ | ⟨h1,a⟩
 all_goals
  have b:=O a;clear a;go_in
  go_wp2_with (go_at_call 194;refine (ze l _ d).mono ?_;rintro e w' ⟨rfl,c⟩)
  go_ret;exact⟨bD b.o.symm,c⟩
end Go.Proofs.YthepmkjggfijoaaGreatDoor
namespace Go.Proofs.YthepmkjggfijoaaGreatDoor
open Go Go.RowKit
theorem LV (a:Addr)(n:Nat):(a.add n).block=a.block:=by unfold Addr.add;split <;> rfl
theorem add_of_add (a:Addr)(i j:Nat):(a.add i).add j=a.add (i+j):=by
 unfold Addr.add;by_cases hi:i=0 <;> by_cases b:j=0 <;> simp [hi,b,Nat.add_assoc]
def Reads (w:World)(B size:Nat)(A:Option Addr)(n:Nat)(xs:List Value):Prop :=
 xs.length=n * size∧(0 < n→∃ ad,A=some ad∧ad.block < B∧∀ j u,xs[j]? = some u→w.cell? (ad.add j)=some u)
section
variable {w w':World} {B B' size n:Nat} {A:Option Addr} {xs:List Value}
theorem Reads.none_:Reads w B size A 0 []:=⟨by simp,fun h=>absurd h (by omega)⟩
theorem Reads.at_ {k:Nat}(h:Reads w B 1 A n xs)(f:k < n):∃ a u,A=some a∧a.block < B∧xs[k]? = some u∧w.cell? (a.add k)=some u:=by
 obtain⟨a,e,c,d⟩:=h.2 (by omega);have b:k < xs.length:=by have:=h.1;omega
 exact⟨a,xs[k],e,c,aaD b,d k _ (aaD b)⟩
theorem Reads.keep (h:Reads w B size A n xs)(d:∀ p:Addr,p.block < B→w'.cell? p=w.cell? p):Reads w' B size A n xs :=
 ⟨h.1,fun f=>by
  obtain⟨b,e,a,c⟩:=h.2 f;exact⟨b,e,a,fun j u i=>(d _ (by rw [LV];exact a)).trans (c j u i)⟩⟩
theorem Reads.more (h:Reads w B size A n xs)(d:B≤B'):Reads w B' size A n xs :=
 ⟨h.1,fun c=>by
  obtain⟨a,e,f,b⟩:=h.2 c;exact⟨a,e,by omega,b⟩⟩
theorem Reads.below (h:Reads w B size A n xs)(a:Below B w w'):Reads w' B size A n xs:=h.keep fun _ b=>a.cell b
theorem Reads.drew (h:Reads w B size A n xs):Reads w.drew B size A n xs:=h
theorem Reads.drewN (h:Reads w B size A n xs)(k:Nat):Reads (w.drewN k) B size A n xs:=h
theorem Reads.alloc (h:Reads w B size A n xs)(a:B≤w.heap.size)(o:Obj):Reads (w.alloc o) B size A n xs:=h.keep fun p b=>World.cell?_alloc_lt w o p (by omega)
theorem Reads.setCell (h:Reads w B size A n xs){p:Addr}(a:B≤p.block)(u:Value):Reads (w.setCell p u) B size A n xs :=
 h.keep fun q b=>World.cell?_setCell_other w p q u (fun e=>by subst e;omega)
theorem Reads.grown (h:Reads w B size A n xs){row:Option Nat}(a:w.grownBy w' row)(c:B≤w.heap.size)(b:∀ g,row=some g→B≤g):Reads w' B size A n xs :=
 h.keep fun p d=>World.cell?_of_block (a.block p.block (by omega) (fun e=>by have:=b _ e.symm;omega))
theorem Reads.cut (h:Reads w B size A n xs){k cap:Nat}(f:k≤n)(e:n≤cap) :
  Reads w B size (if cap=k then A else A.map (·.add (k * size))) (n - k) (xs.drop (k * size)):=by
 refine⟨by rw [List.length_drop,h.1,Nat.sub_mul],fun i=>?_⟩
 obtain⟨b,rfl,c,a⟩:=h.2 (by omega);rw [if_neg (by omega)]
 refine⟨b.add (k * size),rfl,by rw [LV];exact c,fun j u d=>?_⟩
 rw [add_of_add];exact a _ u (by rw [← d,List.getElem?_drop])
theorem Reads.MI {base:Nat}{e:TypeId}{c:Nat}(h:w.ownsRow base e size (.slice A n c) n xs):Reads w w.heap.size size A n xs:=by
 refine⟨h.1,fun d=>?_⟩
 obtain⟨g,cap,hv,_,a⟩:=h.form d;have b:A=some ⟨g,0,none⟩:=by injection hv
 subst b;exact⟨_,rfl,a,h.cells (g:=g) rfl⟩
end
def aC (w:World)(g:Nat)(t:TypeId)(cs:Array Value):Prop:=w.heap[g]? = some (.cells cs t (0,0))
section
variable {w w':World} {g:Nat} {t:TypeId} {cs:Array Value}
theorem aC.lt (h:aC w g t cs):g < w.heap.size:=by
 rcases Nat.lt_or_ge g w.heap.size with b | a
 ·exact b
 ·unfold aC at h;rw [Array.getElem?_eq_none a] at h;cases h
theorem aC.cell (h:aC w g t cs)(i:Nat):w.cell? ⟨g,i,none⟩=cs[i]? := cell_of_row w g i cs t (0,0) h
theorem aC.frozen (h:aC w g t cs)(i:Nat):w.frozen? ⟨g,i,none⟩=false:=by
 unfold aC at h
 simp [World.frozen?,h]
theorem aC.new (w:World)(t:TypeId)(cs:Array Value):aC (w.alloc (.cells cs t)) w.heap.size t cs:=heap_alloc_new w _
theorem aC.drew (h:aC w g t cs):aC w.drew g t cs:=h
theorem aC.drewN (h:aC w g t cs)(n:Nat):aC (w.drewN n) g t cs:=h
theorem aC.alloc (h:aC w g t cs)(o:Obj):aC (w.alloc o) g t cs:=(Below.heap_alloc w o g h.lt).trans h
theorem aC.d_ (h:aC w g t cs)(i:Nat)(u:Value):aC (w.setCell ⟨g,i,none⟩ u) g t (cs.setIfInBounds i u):=by
 unfold aC at h ⊢
 simp [World.setCell,Array.getElem?_modify,h]
theorem aC.far (h:aC w g t cs){p:Addr}(a:g ≠ p.block)(u:Value):aC (w.setCell p u) g t cs:=(Below.heap_setCell w p u g a).trans h
theorem aC.below {B:Nat}(h:aC w g t cs)(a:Below B w w')(b:g < B):aC w' g t cs:=(a.block g b).trans h
theorem aC.grown {row:Option Nat}(h:aC w g t cs)(a:w.grownBy w' row)(b:some g ≠ row):aC w' g t cs:=(a.block g h.lt b).trans h
theorem aC.ne_ {g':Nat}{c:TypeId}{cs':Array Value}(h:aC w g t cs)(a:aC w g' c cs')(b:t ≠ c):g ≠ g':=by
 rintro rfl;unfold aC at h a
 rw [h] at a
 injection a with a
 injection a with _ d
 exact b d
theorem aT {base:Nat}{e:TypeId}{size n:Nat}{v:Value}{xs:List Value}(h:w.ownsRow base e size v n xs)(d:aC w g t cs)(a:e ≠ t):v.ownBlock ≠ some g:=by
 rcases h.2 with ⟨rfl,_⟩ | ⟨g',cap,b,rfl,_,f,_⟩
 ·simp [Value.ownBlock]
 ·intro c
  have:g'=g:=by simpa [Value.ownBlock] using c
  subst this;exact aC.ne_ (t:=e) f d a rfl
end
section
variable {P:Program} (w:World)
theorem Db (base:Nat)(t h e:TypeId)(i:TypeInfo)(size:Nat)(d:P.underlying t=some (.slice e))(hi:P.info? e=some i)
  (v:Value) (n:Nat) (xs:List Value) (a:w.ownsRow base e size v n xs) (c:Nat):(Builtin.append_ #[t,t] h #[v,.slice none 0 c]).run P w=.ok v w:=by
 rcases a.2 with ⟨rfl,rfl⟩ | ⟨g,cap,f,rfl,_,_,b,_⟩
 ·simp [Builtin.append_,run_underlying d,sizeOf,typeInfo,hi,Builtin.lenOf,Builtin.firstCells]
 ·simp [Builtin.append_,run_underlying d,sizeOf,typeInfo,hi,Builtin.lenOf,Builtin.firstCells,b,storeCells]
theorem IU (base:Nat)(t G e:TypeId)(i:TypeInfo)(z:Value)(size b:Nat)(H:P.underlying t=some (.slice e))(hi:P.info? e=some i)(M:i.zero=some z)
  (o:i.size=size) (C:i.bytes=b) (F:z.cells.size=size) (E:0 < size)
  (v:Value) (n:Nat) (xs:List Value) (d:w.ownsRow base e size v n xs)
  (B:Nat) (A:Option Addr) (m c:Nat) (a:List Value) (r:Reads w B size A m a) (h1:∀ u ∈ a,u.oneCell'=true)
  (h63:n+m≤maxLen) (f:(n+m) * b≤140737488355328) (l:base≤w.heap.size) :
  ∃ q w',(Builtin.append_ #[t,t] G #[v,.slice A m c]).run P w=.ok q w'∧w'.ownsRow base e size q (n+m) (xs ++ a)∧w.grownBy w' v.ownBlock ∧
   (q.ownBlock=v.ownBlock∨q.ownBlock=some w.heap.size):=by
 rcases A with _ | y
 ·have L:m=0:=by
   rcases Nat.eq_zero_or_pos m with h0 | h0
   ·exact h0
   ·obtain⟨y,h,_⟩:=r.2 h0;cases h
  subst L;have D:a=[]:=List.eq_nil_of_length_eq_zero (by simpa using r.1);subst D;exact⟨v,w,Db w base t G e i size H hi v n xs d c,by simpa using d,World.grownBy.refl w _,.inl rfl⟩
 ·have k:∀ j u,a[j]? = some u→w.cell? (y.add j)=some u:=by
   intro j u I;rcases Nat.eq_zero_or_pos m with h0 | h0
   ·subst h0;have D:a=[]:=List.eq_nil_of_length_eq_zero (by simpa using r.1);subst D;simp at I
   ·obtain⟨J,h,_,K⟩:=r.2 h0;injection h with h
    subst h;exact K j u I
  obtain⟨q,w',x,h2,h3,_,h5⟩:=run_append_own_at (P:=P) w base t G e i z size b H hi M o C F E v n xs d y m c a r.1 k h1 h63 f l;exact⟨q,w',x,h2,h3,h5⟩
theorem JN {o:Oper}{a:Act}{K:Act→World→Prop}{Q:Exit→Act→World→Prop}(s x:Operand)(t:TypeId)
  (E:o.op=.call { callee:=.builtin .append,args:=#[s,x],argTypes:=#[t,t] })
  (base:Nat) (e:TypeId) (i:TypeInfo) (z:Value) (size b:Nat) (H:P.underlying t=some (.slice e)) (hi:P.info? e=some i) (J:i.zero=some z)
  (k:i.size=size) (y:i.bytes=b) (D:z.cells.size=size) (C:0 < size)
  (v:Value) (n:Nat) (xs:List Value) (G:a.eval s=v) (q:w.ownsRow base e size v n xs)
  (B:Nat) (A:Option Addr) (m c:Nat) (d:List Value) (I:a.eval x=.slice A m c) (F:Reads w B size A m d) (h1:∀ u ∈ d,u.oneCell'=true)
  (h63:n+m≤maxLen) (f:(n+m) * b≤140737488355328) (j:base≤w.heap.size)
  (h:∀ l w',w'.ownsRow base e size l (n+m) (xs ++ d)→w.grownBy w' v.ownBlock→(l.ownBlock=v.ownBlock∨l.ownBlock=some w.heap.size)→K (a.put o.dst l) w'):o.wp P a w K Q:=by
 obtain⟨l,w',r,h2,h3,h4⟩:=IU (P:=P) w base t o.type e i z size b H hi J k y D C v n xs q B A m c d F h1 h63 f j;unfold Oper.wp execOp;simp only [E,resolve,invoke,builtin,Sem.run_bind,Sem.run_pure,Result.andThen_ok,List.map_toArray,List.map_cons,List.map_nil,G,I,r];exact h l w' h2 h3 h4
theorem Dq {r:Array Oper}{rest:List Oper}{o:Oper}{a:Act}{Q:Exit→Act→World→Prop}(C:o.guard=none)(s x:Operand)(t:TypeId)
  (G:o.op=.call { callee:=.builtin .append,args:=#[s,x],argTypes:=#[t,t] })
  (base:Nat) (e:TypeId) (i:TypeInfo) (z:Value) (size b:Nat) (J:P.underlying t=some (.slice e)) (hi:P.info? e=some i) (L:i.zero=some z)
  (k:i.size=size) (y:i.bytes=b) (E:z.cells.size=size) (D:0 < size)
  (v:Value) (n:Nat) (xs:List Value) (I:a.eval s=v) (q:w.ownsRow base e size v n xs)
  (B:Nat) (A:Option Addr) (m c:Nat) (d:List Value) (K:a.eval x=.slice A m c) (H:Reads w B size A m d) (h1:∀ u ∈ d,u.oneCell'=true)
  (h63:n+m≤maxLen) (f:(n+m) * b≤140737488355328) (j:base≤w.heap.size)
  (h:∀ l w',w'.ownsRow base e size l (n+m) (xs ++ d)→w.grownBy w' v.ownBlock→(l.ownBlock=v.ownBlock∨l.ownBlock=some w.heap.size)→wpList P r Q rest (a.put o.dst l) w'):wpList P r Q (o :: rest) a w :=
 wpList_plain C fun _ F=>JN w s x t G base e i z size b J hi L k y E D v n xs I q B A m c d K H h1 h63 f j fun l w' h2 h3 h4=>F _ _ (h l w' h2 h3 h4)
end
end Go.Proofs.YthepmkjggfijoaaGreatDoor
namespace Go.Proofs.YthepmkjggfijoaaGreatDoor
open Go.RowKit Mist
attribute [local go_sem] aj aH aS aB ak
def lZ (t:Tok):List Value:=[.int .u8 t.kind,.string (aM t.text),.int .i64 t.at_]
def jw (l:List Tok):List Value:=l.flatMap lZ
theorem xq (l m:List Tok):jw (l ++ m)=jw l ++ jw m:=by simp [jw]
def nC (w:World)(v:Value)(l:List Tok):Prop:=∃ A c,v=.slice A l.length c∧l.length≤c∧Reads w w.heap.size 3 A l.length (jw l)
theorem nC.MI {w:World}{base:Nat}{v:Value}{l:List Tok}(h:w.ownsRow base 68 3 v l.length (jw l)):nC w v l:=by
 rcases h.2 with ⟨hv,h0⟩ | ⟨g,cap,a,hv,_,_,b,_⟩
 ·have:l=[]:=List.eq_nil_of_length_eq_zero h0
  subst this;exact⟨none,0,hv,aaJ _,Reads.none_⟩
 ·exact⟨_,cap,hv,b,Reads.MI (hv ▸ h)⟩
theorem Ja:(Tryz.prog.info? 68).map (fun i=>(i.zero,i.size,i.bytes))=some (some (.agg #[.int .u8 0,.string ByteArray.empty,.int .i64 0]),3,32):=by kernel_rfl
theorem dh {w:World}{base e size n:Nat}{v:Value}{xs:List Value}(h:w.ownsRow base e size v n xs):∃ A c,v=.slice A n c:=by
 rcases h.2 with ⟨hv,h0⟩ | ⟨g,cap,a,hv,_⟩
 ·exact⟨none,0,by rw [hv,h0]⟩
 ·exact⟨_,_,hv⟩
theorem own_below {w w':World}{base e size n:Nat}{v:Value}{xs:List Value}(h:w.ownsRow base e size v n xs)(f:Below w.heap.size w w'):w'.ownsRow base e size v n xs:=by
 refine⟨h.1,?_⟩
 rcases h.2 with h2 | ⟨g,cap,a,hv,i,c,r⟩
 ·exact .inl h2
 ·have d:g < w.heap.size:=by
   rcases Nat.lt_or_ge g w.heap.size with b | b
   ·exact b
   ·rw [Array.getElem?_eq_none b] at c;cases c
  exact .inr ⟨g,cap,a,hv,i,(f.block g d).trans c,r⟩
theorem iP (w:World)(cs:List Value)(t:TypeId):∀ j u,cs[j]? = some u→(w.alloc (.cells cs.toArray t)).cell? ((⟨w.heap.size,0,none⟩:Addr).add j)=some u:=by
 intro j u a;have b:(w.alloc (.cells cs.toArray t)).heap[w.heap.size]? = some (.cells cs.toArray t):=heap_alloc_new w _
 have:(w.alloc (.cells cs.toArray t)).cell? ⟨w.heap.size,j,none⟩=some u:=by
  rw [Lib.cell_of_heap b];simpa using a
 rw [← this];unfold Addr.add;split
 ·rename_i h;rw [h]
 ·simp
theorem Dk (t:Tok):∀ u ∈ lZ t,u.oneCell'=true:=by
 intro u a;simp [lZ] at a
 rcases a with rfl | rfl | rfl <;> rfl
theorem Pf (l:Bs)(h:¬ (check l).2=0):read l=([],(check l).1,(check l).2):=by unfold Mist.read;rw [if_pos h]
theorem rX (l:Bs)(h:(check l).2=0):read l=dJ (l.length+1) l (skip l) []:=by unfold Mist.read;rw [if_neg (by simpa using h)]
def Gh (l:Bs)(w:World)(e:Ending)(w':World):Prop:=∃ v,e=.returned (.tuple #[v,.int .i64 (read l).2.1,.int .i64 (read l).2.2])∧nC w' v (read l).1∧Below w.heap.size w w'
theorem lJ {l:Bs}{w w':World}{v:Value}{a b:Int}{t:List Tok}{x y:Nat}(h:read l=(t,x,y))(d:a=x)(e:b=y)(f:nC w' v t)(c:Below w.heap.size w w') :
  Gh l w (.returned (.tuple #[v,.int .i64 a,.int .i64 b])) w':=by
 subst d;subst e;exact⟨v,by rw [h],by rw [h];exact f,c⟩
theorem nC.none_ (w:World):nC w (.slice none 0 0) []:=⟨none,0,rfl,aaJ _,Reads.none_⟩
theorem IG (l:Bs)(w:World)(W:Env w)(Q:l.length≤100000000) :
  Calls Tryz.prog 50 #[.string (aM l)] w (Gh l w):=by
 have H:=O W;clear W;by_cases x:(check l).2=0
 case neg =>
  have K:((check l).2:Int) != 0:=by simpa using x
  have G:=O (Pf l x);clear x;go_in
  go_wp2_with (go_at_call 89;refine (J7 l _ Q).mono ?_;rintro e w' ⟨rfl,rfl⟩)
  go_ret3
  exact lJ G.o rfl rfl (nC.none_ _) (Below.refl _ _)
 have K:(((check l).2:Int) != 0)=false:=by simp [x]
 have G:=O (rX l x);clear x;obtain⟨i0,M,S,T,U⟩:=info_parts Ja;have R:=uz l;go_in
 go_wp2_with (first
  | (go_at_call 89;refine (J7 l _ Q).mono ?_;rintro e w' ⟨rfl,rfl⟩)
  | (go_at_call 90;refine (PI l _ Q).mono ?_;rintro e w' ⟨rfl,rfl⟩))
 go_loopw [2,3] (fun v i wr=>∃ (f a:Nat) (b:List Tok),i=.int .i64 a∧a≤l.length∧l.length < f+a∧b.length≤800∧read l=dJ f l a b∧wr.ownsRow w.heap.size 68 3 v b.length (jw b)∧Below w.heap.size w wr) (fun _ i _=>l.length - (intOf i).toNat)
 case atStart=>exact⟨l.length+1,skip l,[],rfl,R,by omega,by simp,G.o,World.ownsRow_nil _ _ _ _,Below.refl _ _⟩
 case round =>
  obtain⟨f,a,b,rfl,ha,Z,X,D,m,Y⟩:=hrel;have F:=O D;clear D;have V:=O Z;clear Z;obtain⟨A,c,rfl⟩:=dh m;have h:=O Y;clear Y;have I:=O m;clear m;obtain⟨f,rfl⟩:∃ f',f=f'+1:=⟨f - 1,by have:=V.o;omega⟩;by_cases hlt:a < l.length
  ·have y:¬ l.length≤a:=by omega
   by_cases j:(first (l.drop a)).1=0
   ·have N:(((first (l.drop a)).1:Int) == 0)=true:=by simp [j]
    have q:=O (kR f l a b y j);clear j y;go_wp2_with (go_at_call 91;refine (yY (l.drop a) _ (H.o.below h.o) (by simp;omega)).mono ?_;rintro e w' ⟨rfl,d⟩)
    go_ret3
    exact lJ (F.o.trans q.o) rfl rfl (nC.none_ _) (h.o.trans (d.mono h.o.size))
   ·have N:(((first (l.drop a)).1:Int) == 0)=false:=by simpa using j
    have C:=kr (l.drop a) j;rw [List.length_drop] at C
    obtain⟨hfl1,hfl2⟩:=C;by_cases h8:b.length=800
    ·have J:((b.length:Int) == 800)=true:=by simp [h8]
     have q:=O (kQ f l a b y j h8);clear j y h8;go_wp2_with (go_at_call 91;refine (yY (l.drop a) _ (H.o.below h.o) (by simp;omega)).mono ?_;rintro e w' ⟨rfl,d⟩)
     go_ret3
     exact lJ (F.o.trans q.o) rfl rfl (nC.none_ _) (h.o.trans (d.mono h.o.size))
    ·have J:((b.length:Int) == 800)=false:=by simp;omega
     have q:=O (ji f l a b y j h8);clear j y;have E:=uz (l.drop (a+(first (l.drop a)).2.length));rw [List.length_drop] at E
     go_wp2_with (first
      | (go_at_call 91;refine (yY (l.drop a) _ (H.o.below h.o) (by simp;omega)).mono ?_;rintro e w' ⟨rfl,d⟩)
      | (go_at_call 90;refine (PI (l.drop (a+(first (l.drop a)).2.length)) _ (by simp;omega)).mono ?_;rintro e w'' ⟨rfl,rfl⟩)
      | (at_builtin
         refine wpList_append_own _ rfl (.tmp 46) (.tmp 51) 60 rfl w.heap.size 68 i0 _ 3 32 Tryz.underlying60 M S T U rfl (by decide) _ b.length (jw b) rfl
           ((own_below I.o d).alloc _) ⟨w'.heap.size,0,none⟩ 1 1 (lZ ⟨(first (l.drop a)).1,(first (l.drop a)).2,(a:Int)⟩) rfl rfl (iP _ _ _) (Dk _) (by simp only [maxLen];omega) (by omega) (by have:=h.o.size;have:=d.size;simp;omega) ?_
         intro v2 w2 u L _))
     have r:Below w.heap.size w w':=h.o.trans (d.mono h.o.size)
     refine⟨⟨f,a+(first (l.drop a)).2.length+skip (l.drop (a+(first (l.drop a)).2.length)),b ++ [⟨(first (l.drop a)).1,(first (l.drop a)).2,(a:Int)⟩],by go_num,by omega,by have:=V.o;omega,by simp;omega,F.o.trans q.o,?_,?_⟩,by simp [intOf];omega⟩
     ·rw [xq,aaO];simpa [jw] using u
     ·exact (r.alloc r.size _).grown L (by have:=r.size;simp;omega) (fun k j=>((own_below I.o d).lt k j).1)
  ·have q:=O (jK f l a b (by omega));go_wp2;go_ret3
   exact lJ (F.o.trans q.o) rfl rfl (nC.MI I.o) h.o
theorem Ep (l:Bs)(w:World)(E:l.length≤100000000) :
  Calls Tryz.prog 55 #[.string (aM l)] w (Gh l w):=by
 by_cases G:(check l).2=0
 case neg =>
  have Z:((check l).2:Int) != 0:=by simpa using G
  have R:=O (Pf l G);clear G;go_in
  go_wp2_with (go_at_call 98;refine (IE l _ E).mono ?_;rintro e w' ⟨rfl,rfl⟩)
  go_ret3
  exact lJ R.o rfl rfl (nC.none_ _) (Below.refl _ _)
 have Z:(((check l).2:Int) != 0)=false:=by simp [G]
 have R:=O (rX l G);clear G;obtain⟨i0,hi0,hz0,hz1,hz2⟩:=info_parts Ja;have hsk:=uz l;have D:=fun w=>Ko l 0 w E (aaL _)
 simp only [List.drop_zero,Int.natCast_zero,Int.zero_add] at D
 have UY:=O D;clear D;go_in
 go_wp2_with (first
  | (go_at_call 98;refine (IE l _ E).mono ?_;rintro e w' ⟨rfl,rfl⟩)
  | (go_at_call 99;refine (UY.o _).mono ?_;rintro e w' ⟨rfl,rfl⟩))
 go_loopw [7,8] (fun v i wr=>∃ (f a:Nat) (b:List Tok),i=.int .i64 a∧a≤l.length∧l.length < f+a∧b.length≤800∧Mist.read l=dJ f l a b∧wr.ownsRow w.heap.size 68 3 v b.length (jw b)∧Below w.heap.size w wr) (fun _ i _=>l.length - (intOf i).toNat)
 case atStart=>exact⟨l.length+1,skip l,[],rfl,hsk,by omega,by simp,R.o,World.ownsRow_made _ _ _ (aaJ _) (by simp [maxLen]) rfl,(Below.refl _ _).alloc (aaJ _) _⟩
 case round =>
  obtain⟨f,a,b,rfl,Y,hf,hacc,L,u,hb⟩:=hrel;have Q:=O L;clear L;have HF:=O hf;clear hf;obtain⟨A,c,rfl⟩:=dh u;have x:=O hb;clear hb;have T:=O u;clear u;obtain⟨f,rfl⟩:∃ f',f=f'+1:=⟨f - 1,by have:=HF.o;omega⟩;by_cases hlt:a < l.length
  ·have H:¬ l.length≤a:=by omega
   by_cases r:(first (l.drop a)).1=0
   ·have hk':(((first (l.drop a)).1:Int) == 0)=true:=by simp [r]
    have y:=O (kR f l a b H r);clear r H;go_wp2_with (go_at_call 100;refine (Ay l a _ E Y).mono ?_;rintro e w' ⟨rfl,q⟩)
    go_ret3
    have j:Below w.heap.size w w':=x.o.trans (q.mono x.o.size);exact lJ (Q.o.trans y.o) rfl rfl (nC.none_ _) (j.alloc j.size _)
   ·have hk':(((first (l.drop a)).1:Int) == 0)=false:=by simpa using r
    have K:=kr (l.drop a) r;rw [List.length_drop] at K
    obtain⟨hfl1,hfl2⟩:=K;by_cases h8:b.length=800
    ·have X:((b.length:Int) == 800)=true:=by simp [h8]
     have y:=O (kQ f l a b H r h8);clear r H h8;go_wp2_with (go_at_call 100;refine (Ay l a _ E Y).mono ?_;rintro e w' ⟨rfl,q⟩)
     go_ret3
     have j:Below w.heap.size w w':=x.o.trans (q.mono x.o.size);exact lJ (Q.o.trans y.o) rfl rfl (nC.none_ _) (j.alloc j.size _)
    ·have X:((b.length:Int) == 800)=false:=by simp;omega
     have J:Rx (l.drop a) a=a:=by unfold Rx;rw [if_neg r]
     have S:=O J;clear J;have y:=O (ji f l a b H r h8);clear r H;have M:=uz (l.drop (a+(first (l.drop a)).2.length));rw [List.length_drop] at M
     go_wp2_with (go_at_call 100;refine (Ay l a _ E Y).mono ?_;rintro e w' ⟨rfl,q⟩)
     have j:Below w.heap.size w w':=x.o.trans (q.mono x.o.size);have I:=O (j.alloc j.size (Obj.cells #[Value.int IntKind.u8 (first (l.drop a)).1,Value.string (aM (first (l.drop a)).2),Value.int IntKind.i64 (Rx (l.drop a) a)] 68));have C:=O ((own_below T.o q).alloc (Obj.cells #[Value.int IntKind.u8 (first (l.drop a)).1,Value.string (aM (first (l.drop a)).2),Value.int IntKind.i64 (Rx (l.drop a) a)] 68));have U:=fun k r=>((own_below T.o q).lt k r).2
     have d:=heap_alloc_new w' (Obj.cells #[Value.int IntKind.u8 (first (l.drop a)).1,Value.string (aM (first (l.drop a)).2),Value.int IntKind.i64 (Rx (l.drop a) a)] 68);have N:w'.heap.size < (w'.alloc (Obj.cells #[Value.int IntKind.u8 (first (l.drop a)).1,Value.string (aM (first (l.drop a)).2),Value.int IntKind.i64 (Rx (l.drop a) a)] 68)).heap.size:=by simp
     obtain⟨W,hW⟩:∃ W,W=w'.alloc (Obj.cells #[Value.int IntKind.u8 (first (l.drop a)).1,Value.string (aM (first (l.drop a)).2),Value.int IntKind.i64 (Rx (l.drop a) a)] 68):=⟨_,rfl⟩;rw [← hW] at I C d N ⊢
     clear hW q j;obtain⟨g,hg⟩:∃ g,g=w'.heap.size:=⟨_,rfl⟩;rw [← hg] at U d N ⊢
     clear hg;have c0:W.cell? ⟨g,0,none⟩=some (.int .u8 (first (l.drop a)).1):=by rw [Lib.cell_of_heap d];rfl
     have c1:W.cell? ⟨g,1,none⟩=some (.string (aM (first (l.drop a)).2)):=by rw [Lib.cell_of_heap d];rfl
     have c2:W.cell? ⟨g,2,none⟩=some (.int .i64 (Rx (l.drop a) a)):=by rw [Lib.cell_of_heap d];rfl
     clear d;have V:(Value.slice A b.length c).ownBlock ≠ some g:=fun h=>by have:=U g h;omega
     clear U;have hwr:IntKind.i64.wrap ((a:Int)+((first (l.drop a)).2.length:Int))=(a:Int)+((first (l.drop a)).2.length:Int):=IntWalk.i64_in _ (by omega)
     go_region_held3 (fun w'=>w'.cell? ⟨g,0,none⟩=some (.int .u8 (first (l.drop a)).1)∧w'.cell? ⟨g,1,none⟩=some (.string (aM (first (l.drop a)).2))∧w'.cell? ⟨g,2,none⟩=some (.int .i64 (Rx (l.drop a) a)))
      (first
       | go_keep
       | (go_split_ands
          refine⟨?_,?_,?_⟩
          ·(rw [m.cell_far _ (by simp;omega) (Ne.symm V)];assumption)
          ·(rw [m.cell_far _ (by simp;omega) (Ne.symm V)];assumption)
          ·(rw [m.cell_far _ (by simp;omega) (Ne.symm V)];assumption)))
      (first
       | (go_at_call 99;refine (Ko l (a+(first (l.drop a)).2.length) _ E (by omega)).mono ?_;rintro e w' ⟨rfl,rfl⟩)
       | (refine step_append_lies _ (by rfl) _ _ _ (by rfl) w.heap.size 68 i0 _ 3 32 Tryz.underlying60 hi0 hz0 hz1 hz2 rfl (by omega) _ b.length (jw b) (by rfl) ((C.o.alloc _).drew)
            ⟨W.heap.size,0,none⟩ 1 1 (lZ ⟨(first (l.drop a)).1,(first (l.drop a)).2,Rx (l.drop a) a⟩) (by rfl) (by rfl) (World.news_of_block (cs:=#[.int .u8 (first (l.drop a)).1,.string (aM (first (l.drop a)).2),.int .i64 (Rx (l.drop a) a)]) (t:=68) (fr:=(0,0)) (heap_alloc_new W _)) (Dk _)
            (by omega) (by simp only [maxLen];omega) (by omega) (by have:=I.o.size;simp;omega) (W.heap.size+1) (by simp) ?_;intro gg cap w1 F m hat hlt))
     clear hwr;go_wp2
     refine⟨⟨f,a+(first (l.drop a)).2.length+skip (l.drop (a+(first (l.drop a)).2.length)),b ++ [⟨(first (l.drop a)).1,(first (l.drop a)).2,(a:Int)⟩],by go_num,by omega,by have:=HF.o;omega,by simp;omega,Q.o.trans y.o,?_,?_⟩,by simp [intOf];omega⟩
     ·rw [xq,aaO,← S.o];simpa [jw] using F
     ·exact (I.o.drew.alloc (by have:=I.o.size;simpa using this) _).grown m (by have:=I.o.size;simp;omega) (fun k r=>(C.o.lt k r).1)
  ·have y:=O (jK f l a b (by omega));go_wp2;go_ret3
   exact lJ (Q.o.trans y.o) rfl rfl (nC.MI T.o) x.o
theorem uy (l:List Tok):∀ (k j:Nat) (u:Value),k < l.length→(lZ (tg l k))[j]? = some u→(jw l)[k * 3+j]? = some u:=by
 induction l with
 | nil=>intro k j u h;simp at h
 | cons t r b =>
  intro k j u h a
  have c:j < 3:=by
   have:=(aaE.1 a).1
   simpa [lZ] using this
  have e:jw (t :: r)=lZ t ++ jw r:=by simp [jw]
  rw [e]
  cases k with
  | zero =>
   rw [List.getElem?_append_left (by simp [lZ];omega)]
   simpa [tg] using a
  | succ k =>
   rw [List.getElem?_append_right (by simp [lZ];omega)]
   have:(k+1) * 3+j - (lZ t).length=k * 3+j:=by simp [lZ];omega
   rw [this];exact b k j u (by simpa using h) (by simpa [tg] using a)
structure Gi (w:World) (b o:Nat) (l:List Tok):Prop where
 lt:b < w.heap.size
 kind:∀ k,k < l.length→w.cell? ⟨b,o+k * 3,none⟩=some (.int .u8 (tg l k).kind)
 text:∀ k,k < l.length→w.cell? ⟨b,o+k * 3+1,none⟩=some (.string (aM (tg l k).text))
 at_:∀ k,k < l.length→w.cell? ⟨b,o+k * 3+2,none⟩=some (.int .i64 (tg l k).at_)
theorem Gi.below {w w':World}{b o:Nat}{l:List Tok}(h:Gi w b o l)(c:Below w.heap.size w w'):Gi w' b o l :=
 ⟨aaW h.lt c.size,fun k a=>(c.cell (p:=⟨b,_,none⟩) h.lt).trans (h.kind k a),fun k a=>(c.cell (p:=⟨b,_,none⟩) h.lt).trans (h.text k a),fun k a=>(c.cell (p:=⟨b,_,none⟩) h.lt).trans (h.at_ k a)⟩
theorem nC.row {w:World}{v:Value}{l:List Tok}(h:nC w v l)(h0:0 < l.length):∃ b o c,v=.slice (some ⟨b,o,none⟩) l.length c∧l.length≤c∧Gi w b o l:=by
 obtain⟨A,c,rfl,r,u⟩:=h;obtain⟨q,rfl,i,a⟩:=u.2 h0;have f:=a 0 _ (uy l 0 0 _ h0 rfl);obtain⟨b,o,m⟩:=q
 have j:m=none:=by
  cases m with
  | none=>rfl
  | some x =>
   exfalso
   simp only [Addr.add,if_pos] at f
   unfold World.cell? at f
   simp only [Option.isSome_some,if_true] at f
   split at f <;> simp at f
 subst j
 have d:∀ n,(⟨b,o,none⟩:Addr).add n=⟨b,o+n,none⟩:=by
  intro n;unfold Addr.add;split
  ·rename_i h;rw [h];rfl
  ·rfl
 refine⟨b,o,c,rfl,r,i,fun k e=>?_,fun k e=>?_,fun k e=>?_⟩
 ·have:=a _ _ (uy l k 0 _ e rfl);rw [d] at this;exact this
 ·have:=a _ _ (uy l k 1 _ e rfl);rw [d] at this;exact this
 ·have:=a _ _ (uy l k 2 _ e rfl);rw [d] at this;exact this
theorem nC.rowA {w:World}{A:Option Addr}{n c:Nat}{l:List Tok}(h:nC w (.slice A n c) l)(h0:0 < l.length):∃ b o,A=some ⟨b,o,none⟩∧Gi w b o l:=by
 obtain⟨b,o,d,hv,_,a⟩:=h.row h0;injection hv with h1 h2 h3
 exact⟨b,o,h1,a⟩
theorem nC.empty {w:World}{v:Value}{l:List Tok}(h:nC w v l)(h0:¬ 0 < l.length):∃ A c,v=.slice A 0 c:=by
 obtain⟨A,c,rfl,_⟩:=h;exact⟨A,c,by rw [show l.length=0 by omega]⟩
theorem nC.below {w w':World}{v:Value}{l:List Tok}(h:nC w v l)(a:Below w.heap.size w w'):nC w' v l:=by
 obtain⟨A,c,rfl,b,d⟩:=h;exact⟨A,c,rfl,b,(d.below a).more a.size⟩
end Go.Proofs.YthepmkjggfijoaaGreatDoor
