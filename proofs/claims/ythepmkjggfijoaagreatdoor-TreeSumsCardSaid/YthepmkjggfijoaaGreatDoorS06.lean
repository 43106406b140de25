/-
  A part of the proof.
-/
import Derived.Test.YthepmkjggfijoaaGreatDoorSA
import Derived.Deep.QuietTactic
import Derived.BigQuiet
import Derived.IntWalk
import Derived.Below
import Derived.Laws.OwnMore
import Derived.Deep.AppendLies
import Derived.Deep.Draws
import Derived.Laws.Rows
import Derived.Maps.AppendAt
import Derived.RegionTactic
import Derived.OwnWalk
import Derived.Deep.RegionHeld3
import Derived.StillTactics
import Derived.Laws.Pointers
import Derived.Test.YthepmkjggfijoaaGreatDoorS01
import Derived.Test.YthepmkjggfijoaaGreatDoorS05
set_option linter.all false
set_option maxRecDepth 100000
set_option maxHeartbeats 3200000
open Go.Lib (hid)
namespace Go.Proofs.YthepmkjggfijoaaGreatDoor
open Go.RowKit Mist
attribute [local go_sem] aj aH aS aB
theorem SK (l:Bs)(a:Nat)(w:World)(_hl:l.length≤100000000)(ha:a=l.length) :
  Calls Tryz.prog 100 #[.string (aM l),.int .i64 a] w fun e w'=>e=.returned (qO (l.drop a) a)∧Below w.heap.size w w':=by
 have hal:l.length≤a:=by omega
 have HF:=hid (lH (l.drop a) (by simp;omega));clear ha;go_in
 go_wp2;refine bodyPost_ret (v:=qO (l.drop a) a) ?_ rfl ⟨rfl,((Below.refl _ _).alloc (aaJ _) _)⟩;simp only [qO,HF.out];simp [results,Tryz.results100,go_sem]
 rfl
theorem gU {B:Nat}{a w:World}(h:Below B a w)(n:Nat):Below B a (w.drewN n):=h.trans ⟨rfl,rfl,rfl,aaJ _,fun _ _=>rfl⟩
theorem prefB_at (g l:Bs)(a:Nat):mO g (l.drop a)=(decide (a+g.length≤max a l.length) && ((l.take (a+g.length)).drop a == g)):=by
 rw [aaI,mO,List.isPrefixOf_iff_prefix,List.prefix_iff_eq_take,List.drop_take];simp only [Nat.add_sub_cancel_left,aaS,decide_eq_true_eq,beq_iff_eq];constructor
 ·intro h
  refine⟨?_,h.symm⟩
  have:=congrArg List.length h
  simp at this
  omega
 ·exact fun h=>h.2.symm
theorem Pk (l:Bs)(a:Nat)(w:World)(hl:l.length≤100000000)(hal:a < l.length)(hs:dP (gt l a)=false)(hd:aQ (gt l a)=false) :
  Calls Tryz.prog 100 #[.string (aM l),.int .i64 a] w fun e w'=>e=.returned (qO (l.drop a) a)∧Below w.heap.size w w':=by
 have H0:=hid (show ¬ (l.drop a).length=0 by simp;omega);have HS:=hid (show ¬ dP (gt (l.drop a) 0)=true by rw [xX,hs];decide);have HD:=hid (show ¬ aQ (gt (l.drop a) 0)=true by rw [xX,hd];decide);have hbn:=heap_alloc_new (w.alloc (Obj.cells #[Value.int IntKind.u8 0,Value.string { data:=#[] },Value.int IntKind.i64 0] 68)) (.cells (lD signs) 9);rw [World.size_alloc] at hbn
 have HBN:=hid hbn;clear hbn;go_in
 go_wp2_with (first
  | (go_at_call 141;refine (sO _ _).mono ?_;rintro e w' ⟨rfl,rfl⟩)
  | (go_at_call 142;refine (qg _ _).mono ?_;rintro e w' ⟨rfl,rfl⟩)
  | (go_at_call 145;refine (SX _).mono ?_;rintro e w' ⟨rfl,rfl⟩))
 go_loopw [9] (fun i wr=>∃ n q:Nat,n≤23∧i=.int .i64 n∧Ac (l.drop a) n∧wr=((w.alloc (Obj.cells #[Value.int IntKind.u8 0,Value.string { data:=#[] },Value.int IntKind.i64 0] 68)).alloc (.cells (lD signs) 9)).drewN q) (fun i _=>23 - (intOf i).toNat)
 case atStart=>exact⟨0,0,aaL _,rfl,EJ _,rfl⟩
 case round =>
  obtain⟨n,q,hn,rfl,hns,rfl⟩:=hrel;have HA:=hid hns;clear hns;by_cases hlt:n < 23
  ·have hc:=FN HBN.out n (show n < signs.length from hlt);have hp:=prefB_at (sg signs n) l a
   have hsl:(sg signs n).length≤2:=by
    have:∀ g ∈ signs,g.length≤2:=by decide
    refine this _ ?_;rw [IY _ _ (show n < signs.length from hlt)];exact List.getElem_mem _
   by_cases hg:a+(sg signs n).length≤l.length
   ·have hgi:(a:Int)+((sg signs n).length:Int)≤(l.length:Int):=by omega
    have hm:max a l.length=l.length:=by omega
    rw [hm] at hp
    rw [aaU hg,Bool.true_and] at hp
    have HP:=hid hp;clear hp;clear hm;go_wp2;have ht:((a:Int)+((sg signs n).length:Int)).toNat=a+(sg signs n).length:=by omega
    have h00:0≤(a:Int)+((sg signs n).length:Int):=by omega
    have hwr:IntKind.i64.wrap ((a:Int)+((sg signs n).length:Int))=(a:Int)+((sg signs n).length:Int):=IntWalk.i64_in _ (by omega);go_quiet (fail)
    clear hwr;go_wp2
    ·have he:((l.take (a+(sg signs n).length)).drop a == sg signs n)=true:=by assumption
     have HF:=hid (iN _ H0.out HS.out HD.out _ (IZ (l.drop a) n hlt HA.out (by rw [HP.out];exact he)));refine bodyPost_ret (v:=qO (l.drop a) a) ?_ rfl ⟨rfl,by (go_grown;exact gU (by go_grown) _)⟩;simp only [qO,HF.out];simp [results,Tryz.results100,go_sem]
     rfl
    ·have he:((l.take (a+(sg signs n).length)).drop a == sg signs n)=false:=by assumption
     exact⟨⟨n+1,_,by omega,by go_num,yF _ n hlt HA.out (by rw [HP.out];exact he),rfl⟩,by simp [intOf];omega⟩
   ·have hgi:(decide ((a:Int)+((sg signs n).length:Int)≤(l.length:Int)))=false:=by simp;omega
    have hm:max a l.length=l.length:=by omega
    rw [hm] at hp
    rw [aaV hg,Bool.false_and] at hp
    have HP:=hid hp;clear hp;clear hm;go_wp2;have hwr:IntKind.i64.wrap ((a:Int)+((sg signs n).length:Int))=(a:Int)+((sg signs n).length:Int):=IntWalk.i64_in _ (by omega);go_quiet (fail)
    clear hwr;go_wp2;exact⟨⟨n+1,_,by omega,by go_num,yF _ n hlt HA.out HP.out,rfl⟩,by simp [intOf];omega⟩
  ·have e:n=23:=by omega
   have HF:=hid (iM _ H0.out HS.out HD.out (ES (l.drop a) (e ▸ HA.out)));clear e;go_wp2;refine bodyPost_ret (v:=qO (l.drop a) a) ?_ rfl ⟨rfl,by (go_grown;exact gU (by go_grown) _)⟩;simp only [qO,HF.out];simp [results,Tryz.results100,go_sem]
   rfl
theorem II (l:Bs)(a:Nat)(w:World)(hl:l.length≤100000000)(ha:a≤l.length) :
  Calls Tryz.prog 100 #[.string (aM l),.int .i64 a] w fun e w'=>e=.returned (qO (l.drop a) a)∧Below w.heap.size w w':=by
 rcases Nat.lt_or_ge a l.length with h | h
 ·cases hs:dP (gt l a)
  ·cases hd:aQ (gt l a)
   ·exact Pk l a w hl h hs hd
   ·exact MV l a w hl h hs hd
  ·exact MW l a w hl h hs
 ·exact SK l a w hl (by omega)
end Go.Proofs.YthepmkjggfijoaaGreatDoor
namespace Go.Proofs.YthepmkjggfijoaaGreatDoor
open Go.RowKit Mist
attribute [local go_sem] aj aH aS aB ak
def Rx (l:Bs)(a:Nat):Int:=if (first l).1=0 then 0 else a
theorem P5 (l:Bs)(a:Nat):qO l a=.agg #[.int .u8 (first l).1,.string (aM (first l).2),.int .i64 (Rx l a)]:=by
 unfold qO Rx Tq;by_cases h:(first l).1=0
 ·rw [if_pos h,if_pos h,RB l h,h]
 ·rw [if_neg h,if_neg h]
theorem Ay (l:Bs)(a:Nat)(w:World)(hl:l.length≤100000000)(ha:a≤l.length) :
  Calls Tryz.prog 100 #[.string (aM l),.int .i64 a] w fun e w' =>
   e=.returned (.agg #[.int .u8 (first (l.drop a)).1,.string (aM (first (l.drop a)).2),.int .i64 (Rx (l.drop a) a)])∧Below w.heap.size w w' :=
 (II l a w hl ha).mono fun e w' h=>⟨by rw [h.1,P5],h.2⟩
theorem Pm (l:Bs)(w:World)(hl:l.length≤100000000) :
  Calls Tryz.prog 100 #[.string (aM l),.int .i64 0] w fun e w' =>
   e=.returned (.agg #[.int .u8 (first l).1,.string (aM (first l).2),.int .i64 0])∧Below w.heap.size w w' :=
 (II l 0 w hl (aaL _)).mono fun e w' h=>⟨by rw [h.1,P5,List.drop_zero];simp [Rx],h.2⟩
theorem Pj {l:Bs}{a b:Int}(ha:a=kind l)(hb:b=iV l):Ending.returned (.tuple #[.int .u8 a,.int .i64 b])=.returned (.tuple #[.int .u8 (kind l),.int .i64 (iV l)]):=by
 rw [ha,hb]
theorem Ia (l:Bs):((((first l).1:Int) == 0)=true∧kind l=0∧iV l=4)∨((((first l).1:Int) == 0)=false∧((first l).2 == l)=false∧kind l=0∧iV l=4) ∨
  ((((first l).1:Int) == 0)=false∧((first l).2 == l)=true∧kind l=(first l).1∧iV l=0):=by
 by_cases h:(first l).1=0
 ·have:kind l=0:=by unfold kind;rw [h];simp
  exact .inl ⟨by simp [h],this,by simp [iV,this]⟩
 ·by_cases g:(first l).2=l
  ·have:kind l=(first l).1:=by unfold kind;rw [if_pos g]
   exact .inr (.inr ⟨by simp;omega,by simp [g],this,by simp [iV,this,h]⟩)
  ·have:kind l=0:=by unfold kind;rw [if_neg g]
   exact .inr (.inl ⟨by simp;omega,by simp [g],this,by simp [iV,this]⟩)
theorem Cr (l:Bs)(w:World)(hE:Env w)(hl:l.length≤100000000) :
  Calls Tryz.prog 165 #[.string (aM l)] w fun e w'=>e=.returned (.tuple #[.int .u8 (kind l),.int .i64 (iV l)])∧Below w.heap.size w w':=by
 have HE:=hid hE;clear hE;rcases Ia l with ⟨h1,hk⟩ | ⟨h1,h2,hk⟩ | ⟨h1,h2,hk⟩
 all_goals
  have HK:=hid hk;clear hk;go_in
  go_wp2_with (go_at_call 91;refine (yY l _ HE.out hl).mono ?_;rintro e w' ⟨rfl,hb⟩)
  go_ret2
  exact⟨Pj (by simp [HK.out.1]) (by simp [HK.out.2]),hb⟩
theorem ze (l:Bs)(w:World)(hl:l.length≤100000000) :
  Calls Tryz.prog 194 #[.string (aM l)] w fun e w'=>e=.returned (.tuple #[.int .u8 (kind l),.int .i64 (iV l)])∧Below w.heap.size w w':=by
 rcases Ia l with ⟨h1,hk⟩ | ⟨h1,h2,hk⟩ | ⟨h1,h2,hk⟩
 case' inl=>have h1':(((first l).1:Int) != 0)=false:=by simpa using h1
 case' inr.inl=>have h1':(((first l).1:Int) != 0)=true:=by simpa using h1
 case' inr.inr=>have h1':(((first l).1:Int) != 0)=true:=by simpa using h1
 all_goals
  have HK:=hid hk;clear hk;go_in
  go_wp2_with (go_at_call 100;refine (Pm l _ hl).mono ?_;rintro e w' ⟨rfl,hb⟩)
  go_ret2
  exact⟨Pj (by simp [HK.out.1]) (by simp [HK.out.2]),hb.alloc hb.size _⟩
theorem R_ (l:Bs):((iV l:Int) == 0)=!((kind l:Int) == 0):=by
 rw [aaI];unfold iV;split <;> simp_all
theorem Cm (l:Bs):(((iV l:Int) == 0)=true∧isName l=((kind l:Int) == 1))∨(((iV l:Int) == 0)=false∧isName l=false):=by
 rw [R_];by_cases h:kind l=0
 ·exact .inr ⟨by simp [h],by simp [isName,h]⟩
 ·refine .inl ⟨by simp [h],?_⟩;rw [aaI,isName];simp;omega
theorem Hq (l:Bs)(w:World)(hE:Env w)(hl:l.length≤100000000) :
  Calls Tryz.prog 104 #[.string (aM l)] w fun e w'=>e=.returned (.bool (isName l))∧Below w.heap.size w w':=by
 have HE:=hid hE;clear hE;rcases Cm l with ⟨h1,hk⟩ | ⟨h1,hk⟩
 all_goals
  have HK:=hid hk;clear hk;go_in
  go_wp2_with (go_at_call 165;refine (Cr l _ HE.out hl).mono ?_;rintro e w' ⟨rfl,hb⟩)
  go_ret;exact⟨bD HK.out.symm,hb⟩
theorem Pp (l:Bs)(w:World)(hl:l.length≤100000000) :
  Calls Tryz.prog 170 #[.string (aM l)] w fun e w'=>e=.returned (.bool (isName l))∧Below w.heap.size w w':=by
 rcases Cm l with ⟨h1,hk⟩ | ⟨h1,hk⟩
 all_goals
  have HK:=hid hk;clear hk;go_in
  go_wp2_with (go_at_call 194;refine (ze l _ hl).mono ?_;rintro e w' ⟨rfl,hb⟩)
  go_ret;exact⟨bD HK.out.symm,hb⟩
end Go.Proofs.YthepmkjggfijoaaGreatDoor
namespace Go.Proofs.YthepmkjggfijoaaGreatDoor
open Go Go.RowKit
theorem LV (a:Addr)(n:Nat):(a.add n).block=a.block:=by unfold Addr.add;split <;> rfl
def Reads (w:World)(B size:Nat)(A:Option Addr)(n:Nat)(xs:List Value):Prop :=
 xs.length=n * size∧(0 < n→∃ ad,A=some ad∧ad.block < B∧∀ j u,xs[j]? = some u→w.cell? (ad.add j)=some u)
section
variable {w w':World} {B B' size n:Nat} {A:Option Addr} {xs:List Value}
theorem Reads.none_:Reads w B size A 0 []:=⟨by simp,fun h=>absurd h (by omega)⟩
theorem Reads.at_ {k:Nat}(h:Reads w B 1 A n xs)(hk:k < n):∃ ad u,A=some ad∧ad.block < B∧xs[k]? = some u∧w.cell? (ad.add k)=some u:=by
 obtain⟨ad,e,hb,hc⟩:=h.2 (by omega);have hl:k < xs.length:=by have:=h.1;omega
 exact⟨ad,xs[k],e,hb,aaD hl,hc k _ (aaD hl)⟩
theorem Reads.keep (h:Reads w B size A n xs)(hk:∀ p:Addr,p.block < B→w'.cell? p=w.cell? p):Reads w' B size A n xs :=
 ⟨h.1,fun hn=>by
  obtain⟨ad,e,hb,hc⟩:=h.2 hn;exact⟨ad,e,hb,fun j u hu=>(hk _ (by rw [LV];exact hb)).trans (hc j u hu)⟩⟩
theorem Reads.more (h:Reads w B size A n xs)(hB:B≤B'):Reads w B' size A n xs :=
 ⟨h.1,fun hn=>by
  obtain⟨ad,e,hb,hc⟩:=h.2 hn;exact⟨ad,e,by omega,hc⟩⟩
theorem Reads.below (h:Reads w B size A n xs)(hb:Below B w w'):Reads w' B size A n xs:=h.keep fun _ hp=>hb.cell hp
theorem Reads.drew (h:Reads w B size A n xs):Reads w.drew B size A n xs:=h
theorem Reads.drewN (h:Reads w B size A n xs)(k:Nat):Reads (w.drewN k) B size A n xs:=h
theorem Reads.alloc (h:Reads w B size A n xs)(hB:B≤w.heap.size)(o:Obj):Reads (w.alloc o) B size A n xs:=h.keep fun p hp=>World.cell?_alloc_lt w o p (by omega)
theorem Reads.setCell (h:Reads w B size A n xs){p:Addr}(hB:B≤p.block)(u:Value):Reads (w.setCell p u) B size A n xs :=
 h.keep fun q hq=>World.cell?_setCell_other w p q u (fun e=>by subst e;omega)
theorem Reads.grown (h:Reads w B size A n xs){row:Option Nat}(hg:w.grownBy w' row)(hB:B≤w.heap.size)(hr:∀ g,row=some g→B≤g):Reads w' B size A n xs :=
 h.keep fun p hp=>World.cell?_of_block (hg.block p.block (by omega) (fun e=>by have:=hr _ e.symm;omega))
theorem Reads.MI {base:Nat}{e:TypeId}{c:Nat}(h:w.ownsRow base e size (.slice A n c) n xs):Reads w w.heap.size size A n xs:=by
 refine⟨h.1,fun hn=>?_⟩
 obtain⟨g,cap,hv,_,hlt⟩:=h.form hn;have hA:A=some ⟨g,0,none⟩:=by injection hv
 subst hA;exact⟨_,rfl,hlt,h.cells (g:=g) rfl⟩
end
def aC (w:World)(g:Nat)(t:TypeId)(cs:Array Value):Prop:=w.heap[g]? = some (.cells cs t (0,0))
section
variable {w w':World} {g:Nat} {t:TypeId} {cs:Array Value}
theorem aC.lt (h:aC w g t cs):g < w.heap.size:=by
 rcases Nat.lt_or_ge g w.heap.size with hlt | hge
 ·exact hlt
 ·unfold aC at h;rw [Array.getElem?_eq_none hge] at h;cases h
theorem aC.cell (h:aC w g t cs)(i:Nat):w.cell? ⟨g,i,none⟩=cs[i]? := cell_of_row w g i cs t (0,0) h
theorem aC.frozen (h:aC w g t cs)(i:Nat):w.frozen? ⟨g,i,none⟩=false:=by
 unfold aC at h
 simp [World.frozen?,h]
theorem aC.new (w:World)(t:TypeId)(cs:Array Value):aC (w.alloc (.cells cs t)) w.heap.size t cs:=heap_alloc_new w _
theorem aC.drew (h:aC w g t cs):aC w.drew g t cs:=h
theorem aC.drewN (h:aC w g t cs)(n:Nat):aC (w.drewN n) g t cs:=h
theorem aC.alloc (h:aC w g t cs)(o:Obj):aC (w.alloc o) g t cs:=(Below.heap_alloc w o g h.lt).trans h
theorem aC.d_ (h:aC w g t cs)(i:Nat)(u:Value):aC (w.setCell ⟨g,i,none⟩ u) g t (cs.setIfInBounds i u):=by
 unfold aC at h ⊢
 simp [World.setCell,Array.getElem?_modify,h]
theorem aC.far (h:aC w g t cs){p:Addr}(hp:g ≠ p.block)(u:Value):aC (w.setCell p u) g t cs:=(Below.heap_setCell w p u g hp).trans h
theorem aC.below {B:Nat}(h:aC w g t cs)(hb:Below B w w')(hg:g < B):aC w' g t cs:=(hb.block g hg).trans h
theorem aC.grown {row:Option Nat}(h:aC w g t cs)(hb:w.grownBy w' row)(hg:some g ≠ row):aC w' g t cs:=(hb.block g h.lt hg).trans h
theorem aC.ne_ {g':Nat}{t':TypeId}{cs':Array Value}(h:aC w g t cs)(h':aC w g' t' cs')(hne:t ≠ t'):g ≠ g':=by
 rintro rfl;unfold aC at h h'
 rw [h] at h'
 injection h' with h'
 injection h' with _ ht
 exact hne ht
theorem aT {base:Nat}{e:TypeId}{size n:Nat}{v:Value}{xs:List Value}(h:w.ownsRow base e size v n xs)(hg:aC w g t cs)(hne:e ≠ t):v.ownBlock ≠ some g:=by
 rcases h.2 with ⟨rfl,_⟩ | ⟨g',cap,cur,rfl,_,hh,_⟩
 ·simp [Value.ownBlock]
 ·intro he
  have:g'=g:=by simpa [Value.ownBlock] using he
  subst this;exact aC.ne_ (t:=e) hh hg hne rfl
end
section
variable {P:Program} (w:World)
theorem Db (base:Nat)(t ty e:TypeId)(i:TypeInfo)(size:Nat)(ht:P.underlying t=some (.slice e))(hi:P.info? e=some i)
  (v:Value) (n:Nat) (xs:List Value) (hown:w.ownsRow base e size v n xs) (c:Nat):(Builtin.append_ #[t,t] ty #[v,.slice none 0 c]).run P w=.ok v w:=by
 rcases hown.2 with ⟨rfl,rfl⟩ | ⟨g,cap,cur,rfl,_,_,hnc,_⟩
 ·simp [Builtin.append_,run_underlying ht,sizeOf,typeInfo,hi,Builtin.lenOf,Builtin.firstCells]
 ·simp [Builtin.append_,run_underlying ht,sizeOf,typeInfo,hi,Builtin.lenOf,Builtin.firstCells,hnc,storeCells]
theorem IU (base:Nat)(t ty e:TypeId)(i:TypeInfo)(z:Value)(size bytes:Nat)(ht:P.underlying t=some (.slice e))(hi:P.info? e=some i)(hz:i.zero=some z)
  (hsize:i.size=size) (hby:i.bytes=bytes) (hzs:z.cells.size=size) (hsz:0 < size)
  (v:Value) (n:Nat) (xs:List Value) (hown:w.ownsRow base e size v n xs)
  (B:Nat) (A:Option Addr) (m c:Nat) (news:List Value) (hr:Reads w B size A m news) (h1:∀ u ∈ news,u.oneCell'=true)
  (h63:n+m≤maxLen) (hbytes:(n+m) * bytes≤140737488355328) (hbase:base≤w.heap.size) :
  ∃ v' w',(Builtin.append_ #[t,t] ty #[v,.slice A m c]).run P w=.ok v' w'∧w'.ownsRow base e size v' (n+m) (xs ++ news)∧w.grownBy w' v.ownBlock ∧
   (v'.ownBlock=v.ownBlock∨v'.ownBlock=some w.heap.size):=by
 rcases A with _ | ad
 ·have hm:m=0:=by
   rcases Nat.eq_zero_or_pos m with h0 | h0
   ·exact h0
   ·obtain⟨ad,h,_⟩:=hr.2 h0;cases h
  subst hm;have hn:news=[]:=List.eq_nil_of_length_eq_zero (by simpa using hr.1);subst hn;exact⟨v,w,Db w base t ty e i size ht hi v n xs hown c,by simpa using hown,World.grownBy.refl w _,.inl rfl⟩
 ·have hcells:∀ j u,news[j]? = some u→w.cell? (ad.add j)=some u:=by
   intro j u hu;rcases Nat.eq_zero_or_pos m with h0 | h0
   ·subst h0;have hn:news=[]:=List.eq_nil_of_length_eq_zero (by simpa using hr.1);subst hn;simp at hu
   ·obtain⟨ad',h,_,hc⟩:=hr.2 h0;injection h with h
    subst h;exact hc j u hu
  obtain⟨v',w',hrun,h2,h3,_,h5⟩:=run_append_own_at (P:=P) w base t ty e i z size bytes ht hi hz hsize hby hzs hsz v n xs hown ad m c news hr.1 hcells h1 h63 hbytes hbase;exact⟨v',w',hrun,h2,h3,h5⟩
theorem JN {o:Oper}{a:Act}{K:Act→World→Prop}{Q:Exit→Act→World→Prop}(s x:Operand)(t:TypeId)
  (ho:o.op=.call { callee:=.builtin .append,args:=#[s,x],argTypes:=#[t,t] })
  (base:Nat) (e:TypeId) (i:TypeInfo) (z:Value) (size bytes:Nat) (ht:P.underlying t=some (.slice e)) (hi:P.info? e=some i) (hz:i.zero=some z)
  (hsize:i.size=size) (hby:i.bytes=bytes) (hzs:z.cells.size=size) (hsz:0 < size)
  (v:Value) (n:Nat) (xs:List Value) (hs:a.eval s=v) (hown:w.ownsRow base e size v n xs)
  (B:Nat) (A:Option Addr) (m c:Nat) (news:List Value) (hx:a.eval x=.slice A m c) (hr:Reads w B size A m news) (h1:∀ u ∈ news,u.oneCell'=true)
  (h63:n+m≤maxLen) (hbytes:(n+m) * bytes≤140737488355328) (hbase:base≤w.heap.size)
  (h:∀ v' w',w'.ownsRow base e size v' (n+m) (xs ++ news)→w.grownBy w' v.ownBlock→(v'.ownBlock=v.ownBlock∨v'.ownBlock=some w.heap.size)→K (a.put o.dst v') w'):o.wp P a w K Q:=by
 obtain⟨v',w',hrun,h2,h3,h4⟩:=IU (P:=P) w base t o.type e i z size bytes ht hi hz hsize hby hzs hsz v n xs hown B A m c news hr h1 h63 hbytes hbase;unfold Oper.wp execOp;simp only [ho,resolve,invoke,builtin,Sem.run_bind,Sem.run_pure,Result.andThen_ok,List.map_toArray,List.map_cons,List.map_nil,hs,hx,hrun];exact h v' w' h2 h3 h4
theorem Dq {ops:Array Oper}{rest:List Oper}{o:Oper}{a:Act}{Q:Exit→Act→World→Prop}(hgd:o.guard=none)(s x:Operand)(t:TypeId)
  (ho:o.op=.call { callee:=.builtin .append,args:=#[s,x],argTypes:=#[t,t] })
  (base:Nat) (e:TypeId) (i:TypeInfo) (z:Value) (size bytes:Nat) (ht:P.underlying t=some (.slice e)) (hi:P.info? e=some i) (hz:i.zero=some z)
  (hsize:i.size=size) (hby:i.bytes=bytes) (hzs:z.cells.size=size) (hsz:0 < size)
  (v:Value) (n:Nat) (xs:List Value) (hs:a.eval s=v) (hown:w.ownsRow base e size v n xs)
  (B:Nat) (A:Option Addr) (m c:Nat) (news:List Value) (hx:a.eval x=.slice A m c) (hr:Reads w B size A m news) (h1:∀ u ∈ news,u.oneCell'=true)
  (h63:n+m≤maxLen) (hbytes:(n+m) * bytes≤140737488355328) (hbase:base≤w.heap.size)
  (h:∀ v' w',w'.ownsRow base e size v' (n+m) (xs ++ news)→w.grownBy w' v.ownBlock→(v'.ownBlock=v.ownBlock∨v'.ownBlock=some w.heap.size)→wpList P ops Q rest (a.put o.dst v') w'):wpList P ops Q (o :: rest) a w :=
 wpList_plain hgd fun _ hK=>JN w s x t ho base e i z size bytes ht hi hz hsize hby hzs hsz v n xs hs hown B A m c news hx hr h1 h63 hbytes hbase fun v' w' h2 h3 h4=>hK _ _ (h v' w' h2 h3 h4)
end
end Go.Proofs.YthepmkjggfijoaaGreatDoor
namespace Go.Proofs.YthepmkjggfijoaaGreatDoor
open Go.RowKit Mist
attribute [local go_sem] aj aH aS aB ak
def lZ (t:Tok):List Value:=[.int .u8 t.kind,.string (aM t.text),.int .i64 t.at_]
def jw (l:List Tok):List Value:=l.flatMap lZ
theorem xq (l m:List Tok):jw (l ++ m)=jw l ++ jw m:=by simp [jw]
def nC (w:World)(v:Value)(l:List Tok):Prop:=∃ A c,v=.slice A l.length c∧l.length≤c∧Reads w w.heap.size 3 A l.length (jw l)
theorem nC.MI {w:World}{base:Nat}{v:Value}{l:List Tok}(h:w.ownsRow base 68 3 v l.length (jw l)):nC w v l:=by
 rcases h.2 with ⟨hv,h0⟩ | ⟨g,cap,cur,hv,_,_,hc,_⟩
 ·have:l=[]:=List.eq_nil_of_length_eq_zero h0
  subst this;exact⟨none,0,hv,aaJ _,Reads.none_⟩
 ·exact⟨_,cap,hv,hc,Reads.MI (hv ▸ h)⟩
theorem Ja:(Tryz.prog.info? 68).map (fun i=>(i.zero,i.size,i.bytes))=some (some (.agg #[.int .u8 0,.string ByteArray.empty,.int .i64 0]),3,32):=by kernel_rfl
theorem dh {w:World}{base e size n:Nat}{v:Value}{xs:List Value}(h:w.ownsRow base e size v n xs):∃ A c,v=.slice A n c:=by
 rcases h.2 with ⟨hv,h0⟩ | ⟨g,cap,cur,hv,_⟩
 ·exact⟨none,0,by rw [hv,h0]⟩
 ·exact⟨_,_,hv⟩
theorem own_below {w w':World}{base e size n:Nat}{v:Value}{xs:List Value}(h:w.ownsRow base e size v n xs)(hb:Below w.heap.size w w'):w'.ownsRow base e size v n xs:=by
 refine⟨h.1,?_⟩
 rcases h.2 with h2 | ⟨g,cap,cur,hv,hg,hh,r⟩
 ·exact .inl h2
 ·have hlt:g < w.heap.size:=by
   rcases Nat.lt_or_ge g w.heap.size with h' | h'
   ·exact h'
   ·rw [Array.getElem?_eq_none h'] at hh;cases hh
  exact .inr ⟨g,cap,cur,hv,hg,(hb.block g hlt).trans hh,r⟩
theorem iP (w:World)(cs:List Value)(t:TypeId):∀ j u,cs[j]? = some u→(w.alloc (.cells cs.toArray t)).cell? ((⟨w.heap.size,0,none⟩:Addr).add j)=some u:=by
 intro j u hj;have hn:(w.alloc (.cells cs.toArray t)).heap[w.heap.size]? = some (.cells cs.toArray t):=heap_alloc_new w _
 have:(w.alloc (.cells cs.toArray t)).cell? ⟨w.heap.size,j,none⟩=some u:=by
  rw [Lib.cell_of_heap hn];simpa using hj
 rw [← this];unfold Addr.add;split
 ·rename_i h;rw [h]
 ·simp
theorem Dk (t:Tok):∀ u ∈ lZ t,u.oneCell'=true:=by
 intro u hu;simp [lZ] at hu
 rcases hu with rfl | rfl | rfl <;> rfl
theorem Pf (l:Bs)(h:¬ (check l).2=0):read l=([],(check l).1,(check l).2):=by unfold Mist.read;rw [if_pos h]
theorem rX (l:Bs)(h:(check l).2=0):read l=dJ (l.length+1) l (skip l) []:=by unfold Mist.read;rw [if_neg (by simpa using h)]
def Gh (l:Bs)(w:World)(e:Ending)(w':World):Prop:=∃ v,e=.returned (.tuple #[v,.int .i64 (read l).2.1,.int .i64 (read l).2.2])∧nC w' v (read l).1∧Below w.heap.size w w'
theorem lJ {l:Bs}{w w':World}{v:Value}{a b:Int}{t:List Tok}{x y:Nat}(h:read l=(t,x,y))(ha:a=x)(hb:b=y)(ht:nC w' v t)(hbl:Below w.heap.size w w') :
  Gh l w (.returned (.tuple #[v,.int .i64 a,.int .i64 b])) w':=by
 subst ha;subst hb;exact⟨v,by rw [h],by rw [h];exact ht,hbl⟩
theorem nC.none_ (w:World):nC w (.slice none 0 0) []:=⟨none,0,rfl,aaJ _,Reads.none_⟩
theorem IG (l:Bs)(w:World)(hE:Env w)(hl:l.length≤100000000) :
  Calls Tryz.prog 50 #[.string (aM l)] w (Gh l w):=by
 have HE:=hid hE;clear hE;by_cases hc:(check l).2=0
 case neg =>
  have hc':((check l).2:Int) != 0:=by simpa using hc
  have HC:=hid (Pf l hc);clear hc;go_in
  go_wp2_with (go_at_call 89;refine (J7 l _ hl).mono ?_;rintro e w' ⟨rfl,rfl⟩)
  go_ret3
  exact lJ HC.out rfl rfl (nC.none_ _) (Below.refl _ _)
 have hc':(((check l).2:Int) != 0)=false:=by simp [hc]
 have HC:=hid (rX l hc);clear hc;obtain⟨i0,hi0,hz0,hz1,hz2⟩:=info_parts Ja;have hsk:=uz l;go_in
 go_wp2_with (first
  | (go_at_call 89;refine (J7 l _ hl).mono ?_;rintro e w' ⟨rfl,rfl⟩)
  | (go_at_call 90;refine (PI l _ hl).mono ?_;rintro e w' ⟨rfl,rfl⟩))
 go_loopw [2,3] (fun v i wr=>∃ (f a:Nat) (acc:List Tok),i=.int .i64 a∧a≤l.length∧l.length < f+a∧acc.length≤800∧read l=dJ f l a acc∧wr.ownsRow w.heap.size 68 3 v acc.length (jw acc)∧Below w.heap.size w wr) (fun _ i _=>l.length - (intOf i).toNat)
 case atStart=>exact⟨l.length+1,skip l,[],rfl,hsk,by omega,by simp,HC.out,World.ownsRow_nil _ _ _ _,Below.refl _ _⟩
 case round =>
  obtain⟨f,a,acc,rfl,ha,hf,hacc,hrd,hown,hb⟩:=hrel;have HR:=hid hrd;clear hrd;have HF:=hid hf;clear hf;obtain⟨A,c,rfl⟩:=dh hown;have HB:=hid hb;clear hb;have HO:=hid hown;clear hown;obtain⟨f,rfl⟩:∃ f',f=f'+1:=⟨f - 1,by have:=HF.out;omega⟩;by_cases hlt:a < l.length
  ·have hn:¬ l.length≤a:=by omega
   by_cases hk:(first (l.drop a)).1=0
   ·have hk':(((first (l.drop a)).1:Int) == 0)=true:=by simp [hk]
    have HK:=hid (kR f l a acc hn hk);clear hk hn;go_wp2_with (go_at_call 91;refine (yY (l.drop a) _ (HE.out.below HB.out) (by simp;omega)).mono ?_;rintro e w' ⟨rfl,hb'⟩)
    go_ret3
    exact lJ (HR.out.trans HK.out) rfl rfl (nC.none_ _) (HB.out.trans (hb'.mono HB.out.size))
   ·have hk':(((first (l.drop a)).1:Int) == 0)=false:=by simpa using hk
    have hfl:=kr (l.drop a) hk;rw [List.length_drop] at hfl
    obtain⟨hfl1,hfl2⟩:=hfl;by_cases h8:acc.length=800
    ·have h8':((acc.length:Int) == 800)=true:=by simp [h8]
     have HK:=hid (kQ f l a acc hn hk h8);clear hk hn h8;go_wp2_with (go_at_call 91;refine (yY (l.drop a) _ (HE.out.below HB.out) (by simp;omega)).mono ?_;rintro e w' ⟨rfl,hb'⟩)
     go_ret3
     exact lJ (HR.out.trans HK.out) rfl rfl (nC.none_ _) (HB.out.trans (hb'.mono HB.out.size))
    ·have h8':((acc.length:Int) == 800)=false:=by simp;omega
     have HK:=hid (ji f l a acc hn hk h8);clear hk hn;have hsk2:=uz (l.drop (a+(first (l.drop a)).2.length));rw [List.length_drop] at hsk2
     go_wp2_with (first
      | (go_at_call 91;refine (yY (l.drop a) _ (HE.out.below HB.out) (by simp;omega)).mono ?_;rintro e w' ⟨rfl,hb'⟩)
      | (go_at_call 90;refine (PI (l.drop (a+(first (l.drop a)).2.length)) _ (by simp;omega)).mono ?_;rintro e w'' ⟨rfl,rfl⟩)
      | (at_builtin
         refine wpList_append_own _ rfl (.tmp 46) (.tmp 51) 60 rfl w.heap.size 68 i0 _ 3 32 Tryz.underlying60 hi0 hz0 hz1 hz2 rfl (by decide) _ acc.length (jw acc) rfl
           ((own_below HO.out hb').alloc _) ⟨w'.heap.size,0,none⟩ 1 1 (lZ ⟨(first (l.drop a)).1,(first (l.drop a)).2,(a:Int)⟩) rfl rfl (iP _ _ _) (Dk _) (by simp only [maxLen];omega) (by omega) (by have:=HB.out.size;have:=hb'.size;simp;omega) ?_
         intro v2 w2 hown2 hg2 _))
     have hbw:Below w.heap.size w w':=HB.out.trans (hb'.mono HB.out.size)
     refine⟨⟨f,a+(first (l.drop a)).2.length+skip (l.drop (a+(first (l.drop a)).2.length)),acc ++ [⟨(first (l.drop a)).1,(first (l.drop a)).2,(a:Int)⟩],by go_num,by omega,by have:=HF.out;omega,by simp;omega,HR.out.trans HK.out,?_,?_⟩,by simp [intOf];omega⟩
     ·rw [xq,aaO];simpa [jw] using hown2
     ·exact (hbw.alloc hbw.size _).grown hg2 (by have:=hbw.size;simp;omega) (fun k hk=>((own_below HO.out hb').lt k hk).1)
  ·have HK:=hid (jK f l a acc (by omega));go_wp2;go_ret3
   exact lJ (HR.out.trans HK.out) rfl rfl (nC.MI HO.out) HB.out
theorem Ep (l:Bs)(w:World)(hl:l.length≤100000000) :
  Calls Tryz.prog 55 #[.string (aM l)] w (Gh l w):=by
 by_cases hc:(check l).2=0
 case neg =>
  have hc':((check l).2:Int) != 0:=by simpa using hc
  have HC:=hid (Pf l hc);clear hc;go_in
  go_wp2_with (go_at_call 98;refine (IE l _ hl).mono ?_;rintro e w' ⟨rfl,rfl⟩)
  go_ret3
  exact lJ HC.out rfl rfl (nC.none_ _) (Below.refl _ _)
 have hc':(((check l).2:Int) != 0)=false:=by simp [hc]
 have HC:=hid (rX l hc);clear hc;obtain⟨i0,hi0,hz0,hz1,hz2⟩:=info_parts Ja;have hsk:=uz l;have hg0:=fun w=>Ko l 0 w hl (aaL _)
 simp only [List.drop_zero,Int.natCast_zero,Int.zero_add] at hg0
 have UY:=hid hg0;clear hg0;go_in
 go_wp2_with (first
  | (go_at_call 98;refine (IE l _ hl).mono ?_;rintro e w' ⟨rfl,rfl⟩)
  | (go_at_call 99;refine (UY.out _).mono ?_;rintro e w' ⟨rfl,rfl⟩))
 go_loopw [7,8] (fun v i wr=>∃ (f a:Nat) (acc:List Tok),i=.int .i64 a∧a≤l.length∧l.length < f+a∧acc.length≤800∧Mist.read l=dJ f l a acc∧wr.ownsRow w.heap.size 68 3 v acc.length (jw acc)∧Below w.heap.size w wr) (fun _ i _=>l.length - (intOf i).toNat)
 case atStart=>exact⟨l.length+1,skip l,[],rfl,hsk,by omega,by simp,HC.out,World.ownsRow_made _ _ _ (aaJ _) (by simp [maxLen]) rfl,(Below.refl _ _).alloc (aaJ _) _⟩
 case round =>
  obtain⟨f,a,acc,rfl,ha,hf,hacc,hrd,hown,hb⟩:=hrel;have HR:=hid hrd;clear hrd;have HF:=hid hf;clear hf;obtain⟨A,c,rfl⟩:=dh hown;have HB:=hid hb;clear hb;have HO:=hid hown;clear hown;obtain⟨f,rfl⟩:∃ f',f=f'+1:=⟨f - 1,by have:=HF.out;omega⟩;by_cases hlt:a < l.length
  ·have hn:¬ l.length≤a:=by omega
   by_cases hk:(first (l.drop a)).1=0
   ·have hk':(((first (l.drop a)).1:Int) == 0)=true:=by simp [hk]
    have HK:=hid (kR f l a acc hn hk);clear hk hn;go_wp2_with (go_at_call 100;refine (Ay l a _ hl ha).mono ?_;rintro e w' ⟨rfl,hb'⟩)
    go_ret3
    have hbw:Below w.heap.size w w':=HB.out.trans (hb'.mono HB.out.size);exact lJ (HR.out.trans HK.out) rfl rfl (nC.none_ _) (hbw.alloc hbw.size _)
   ·have hk':(((first (l.drop a)).1:Int) == 0)=false:=by simpa using hk
    have hfl:=kr (l.drop a) hk;rw [List.length_drop] at hfl
    obtain⟨hfl1,hfl2⟩:=hfl;by_cases h8:acc.length=800
    ·have h8':((acc.length:Int) == 800)=true:=by simp [h8]
     have HK:=hid (kQ f l a acc hn hk h8);clear hk hn h8;go_wp2_with (go_at_call 100;refine (Ay l a _ hl ha).mono ?_;rintro e w' ⟨rfl,hb'⟩)
     go_ret3
     have hbw:Below w.heap.size w w':=HB.out.trans (hb'.mono HB.out.size);exact lJ (HR.out.trans HK.out) rfl rfl (nC.none_ _) (hbw.alloc hbw.size _)
    ·have h8':((acc.length:Int) == 800)=false:=by simp;omega
     have hfa:Rx (l.drop a) a=a:=by unfold Rx;rw [if_neg hk]
     have HFA:=hid hfa;clear hfa;have HK:=hid (ji f l a acc hn hk h8);clear hk hn;have hsk2:=uz (l.drop (a+(first (l.drop a)).2.length));rw [List.length_drop] at hsk2
     go_wp2_with (go_at_call 100;refine (Ay l a _ hl ha).mono ?_;rintro e w' ⟨rfl,hb'⟩)
     have hbw:Below w.heap.size w w':=HB.out.trans (hb'.mono HB.out.size);have EZ:=hid (hbw.alloc hbw.size (Obj.cells #[Value.int IntKind.u8 (first (l.drop a)).1,Value.string (aM (first (l.drop a)).2),Value.int IntKind.i64 (Rx (l.drop a) a)] 68));have HOW:=hid ((own_below HO.out hb').alloc (Obj.cells #[Value.int IntKind.u8 (first (l.drop a)).1,Value.string (aM (first (l.drop a)).2),Value.int IntKind.i64 (Rx (l.drop a) a)] 68));have Xz:=fun k hk=>((own_below HO.out hb').lt k hk).2
     have hnew:=heap_alloc_new w' (Obj.cells #[Value.int IntKind.u8 (first (l.drop a)).1,Value.string (aM (first (l.drop a)).2),Value.int IntKind.i64 (Rx (l.drop a) a)] 68);have hsz:w'.heap.size < (w'.alloc (Obj.cells #[Value.int IntKind.u8 (first (l.drop a)).1,Value.string (aM (first (l.drop a)).2),Value.int IntKind.i64 (Rx (l.drop a) a)] 68)).heap.size:=by simp
     obtain⟨W,hW⟩:∃ W,W=w'.alloc (Obj.cells #[Value.int IntKind.u8 (first (l.drop a)).1,Value.string (aM (first (l.drop a)).2),Value.int IntKind.i64 (Rx (l.drop a) a)] 68):=⟨_,rfl⟩;rw [← hW] at EZ HOW hnew hsz ⊢
     clear hW hb' hbw;obtain⟨g,hg⟩:∃ g,g=w'.heap.size:=⟨_,rfl⟩;rw [← hg] at Xz hnew hsz ⊢
     clear hg;have c0:W.cell? ⟨g,0,none⟩=some (.int .u8 (first (l.drop a)).1):=by rw [Lib.cell_of_heap hnew];rfl
     have c1:W.cell? ⟨g,1,none⟩=some (.string (aM (first (l.drop a)).2)):=by rw [Lib.cell_of_heap hnew];rfl
     have c2:W.cell? ⟨g,2,none⟩=some (.int .i64 (Rx (l.drop a) a)):=by rw [Lib.cell_of_heap hnew];rfl
     clear hnew;have ag:(Value.slice A acc.length c).ownBlock ≠ some g:=fun h=>by have:=Xz g h;omega
     clear Xz;have hwr:IntKind.i64.wrap ((a:Int)+((first (l.drop a)).2.length:Int))=(a:Int)+((first (l.drop a)).2.length:Int):=IntWalk.i64_in _ (by omega)
     go_region_held3 (fun w'=>w'.cell? ⟨g,0,none⟩=some (.int .u8 (first (l.drop a)).1)∧w'.cell? ⟨g,1,none⟩=some (.string (aM (first (l.drop a)).2))∧w'.cell? ⟨g,2,none⟩=some (.int .i64 (Rx (l.drop a) a)))
      (first
       | go_keep
       | (go_split_ands
          refine⟨?_,?_,?_⟩
          ·(rw [hgrow.cell_far _ (by simp;omega) (Ne.symm ag)];assumption)
          ·(rw [hgrow.cell_far _ (by simp;omega) (Ne.symm ag)];assumption)
          ·(rw [hgrow.cell_far _ (by simp;omega) (Ne.symm ag)];assumption)))
      (first
       | (go_at_call 99;refine (Ko l (a+(first (l.drop a)).2.length) _ hl (by omega)).mono ?_;rintro e w' ⟨rfl,rfl⟩)
       | (refine step_append_lies _ (by rfl) _ _ _ (by rfl) w.heap.size 68 i0 _ 3 32 Tryz.underlying60 hi0 hz0 hz1 hz2 rfl (by omega) _ acc.length (jw acc) (by rfl) ((HOW.out.alloc _).drew)
            ⟨W.heap.size,0,none⟩ 1 1 (lZ ⟨(first (l.drop a)).1,(first (l.drop a)).2,Rx (l.drop a) a⟩) (by rfl) (by rfl) (World.news_of_block (cs:=#[.int .u8 (first (l.drop a)).1,.string (aM (first (l.drop a)).2),.int .i64 (Rx (l.drop a) a)]) (t:=68) (fr:=(0,0)) (heap_alloc_new W _)) (Dk _)
            (by omega) (by simp only [maxLen];omega) (by omega) (by have:=EZ.out.size;simp;omega) (W.heap.size+1) (by simp) ?_;intro gg cap w1 hown1 hgrow hat hlt))
     clear hwr;go_wp2
     refine⟨⟨f,a+(first (l.drop a)).2.length+skip (l.drop (a+(first (l.drop a)).2.length)),acc ++ [⟨(first (l.drop a)).1,(first (l.drop a)).2,(a:Int)⟩],by go_num,by omega,by have:=HF.out;omega,by simp;omega,HR.out.trans HK.out,?_,?_⟩,by simp [intOf];omega⟩
     ·rw [xq,aaO,← HFA.out];simpa [jw] using hown1
     ·exact (EZ.out.drew.alloc (by have:=EZ.out.size;simpa using this) _).grown hgrow (by have:=EZ.out.size;simp;omega) (fun k hk=>(HOW.out.lt k hk).1)
  ·have HK:=hid (jK f l a acc (by omega));go_wp2;go_ret3
   exact lJ (HR.out.trans HK.out) rfl rfl (nC.MI HO.out) HB.out
theorem uy (l:List Tok):∀ (k j:Nat) (u:Value),k < l.length→(lZ (tg l k))[j]? = some u→(jw l)[k * 3+j]? = some u:=by
 induction l with
 | nil=>intro k j u h;simp at h
 | cons t r ih =>
  intro k j u h hu
  have hj:j < 3:=by
   have:=(aaE.1 hu).1
   simpa [lZ] using this
  have e:jw (t :: r)=lZ t ++ jw r:=by simp [jw]
  rw [e]
  cases k with
  | zero =>
   rw [List.getElem?_append_left (by simp [lZ];omega)]
   simpa [tg] using hu
  | succ k =>
   rw [List.getElem?_append_right (by simp [lZ];omega)]
   have:(k+1) * 3+j - (lZ t).length=k * 3+j:=by simp [lZ];omega
   rw [this];exact ih k j u (by simpa using h) (by simpa [tg] using hu)
structure Gi (w:World) (b o:Nat) (l:List Tok):Prop where
 lt:b < w.heap.size
 kind:∀ k,k < l.length→w.cell? ⟨b,o+k * 3,none⟩=some (.int .u8 (tg l k).kind)
 text:∀ k,k < l.length→w.cell? ⟨b,o+k * 3+1,none⟩=some (.string (aM (tg l k).text))
 at_:∀ k,k < l.length→w.cell? ⟨b,o+k * 3+2,none⟩=some (.int .i64 (tg l k).at_)
theorem Gi.below {w w':World}{b o:Nat}{l:List Tok}(h:Gi w b o l)(hb:Below w.heap.size w w'):Gi w' b o l :=
 ⟨aaW h.lt hb.size,fun k hk=>(hb.cell (p:=⟨b,_,none⟩) h.lt).trans (h.kind k hk),fun k hk=>(hb.cell (p:=⟨b,_,none⟩) h.lt).trans (h.text k hk),fun k hk=>(hb.cell (p:=⟨b,_,none⟩) h.lt).trans (h.at_ k hk)⟩
theorem nC.row {w:World}{v:Value}{l:List Tok}(h:nC w v l)(h0:0 < l.length):∃ b o c,v=.slice (some ⟨b,o,none⟩) l.length c∧l.length≤c∧Gi w b o l:=by
 obtain⟨A,c,rfl,hc,hr⟩:=h;obtain⟨ad,rfl,hlt,hcell⟩:=hr.2 h0;have hz:=hcell 0 _ (uy l 0 0 _ h0 rfl);obtain⟨b,o,sp⟩:=ad
 have hsp:sp=none:=by
  cases sp with
  | none=>rfl
  | some x =>
   exfalso
   simp only [Addr.add,if_pos] at hz
   unfold World.cell? at hz
   simp only [Option.isSome_some,if_true] at hz
   split at hz <;> simp at hz
 subst hsp
 have hadd:∀ n,(⟨b,o,none⟩:Addr).add n=⟨b,o+n,none⟩:=by
  intro n;unfold Addr.add;split
  ·rename_i h;rw [h];rfl
  ·rfl
 refine⟨b,o,c,rfl,hc,hlt,fun k hk=>?_,fun k hk=>?_,fun k hk=>?_⟩
 ·have:=hcell _ _ (uy l k 0 _ hk rfl);rw [hadd] at this;exact this
 ·have:=hcell _ _ (uy l k 1 _ hk rfl);rw [hadd] at this;exact this
 ·have:=hcell _ _ (uy l k 2 _ hk rfl);rw [hadd] at this;exact this
theorem nC.rowA {w:World}{A:Option Addr}{n c:Nat}{l:List Tok}(h:nC w (.slice A n c) l)(h0:0 < l.length):∃ b o,A=some ⟨b,o,none⟩∧Gi w b o l:=by
 obtain⟨b,o,c',hv,_,hr⟩:=h.row h0;injection hv with h1 h2 h3
 exact⟨b,o,h1,hr⟩
theorem nC.empty {w:World}{v:Value}{l:List Tok}(h:nC w v l)(h0:¬ 0 < l.length):∃ A c,v=.slice A 0 c:=by
 obtain⟨A,c,rfl,_⟩:=h;exact⟨A,c,by rw [show l.length=0 by omega]⟩
theorem nC.below {w w':World}{v:Value}{l:List Tok}(h:nC w v l)(hb:Below w.heap.size w w'):nC w' v l:=by
 obtain⟨A,c,rfl,hc,hr⟩:=h;exact⟨A,c,rfl,hc,(hr.below hb).more hb.size⟩
end Go.Proofs.YthepmkjggfijoaaGreatDoor
