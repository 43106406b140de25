/-
  A part of the proof.
-/
import Derived.WalkSpells
import Derived.WalkLawsBesides
import Derived.Handy
import Derived.Lib.AppendIntMem
import Derived.Lib.SmallJoins
import Derived.Test.YtalghggmkojblaaGreatDoorShelf
import Derived.Test.YtalghggmkojblaaGreatDoorS02
set_option linter.all false
set_option maxRecDepth 100000
set_option maxHeartbeats 1000000
namespace Mist
structure Pz where
 text:Bs
 blank:Bool
 node:Int
 deriving DecidableEq,Inhabited
def pR (k:Nat):Nat :=
 if k=19∨k=20 then 1 else if k=18 then 2 else if k=17 then 3 else if k=5 then 4 else if 11≤k∧k≤16 then 5
 else if k=6∨k=7 then 6 else if k=8∨k=9∨k=10 then 7 else if k=4 then 8 else if 1≤k∧k≤26∧k ≠ 25 then 9 else 0
def zF (own:Nat)(j:Nat)(kid:Nat):Bool :=
 if own=4∨own=5∨own=22 then decide (pR own≤pR kid)
 else if own=23 then decide (0 < j) || decide (pR own≤pR kid)
 else if 6≤own∧own≤10∨own=17∨own=18 then decide (pR own < pR kid) || (decide (pR kid=pR own) && decide (j=0))
 else if 11≤own∧own≤16 then decide (pR own < pR kid)
 else true
def cZ (b:Bool):List Pz→List Pz
 | []=>[]
 | p :: r=>⟨p.text,b,p.node⟩ :: r
def tz (t:Bs)(n:Int):Pz:=⟨t,false,n⟩
def lz (t:Bs)(n:Int):Pz:=⟨t,true,n⟩
def Ej (k:Nat):Bs :=
 if k=6 then [43] else if k=7 then [45] else if k=8 then [42] else if k=9 then [47] else if k=10 then [37]
 else if k=11 then [61,61] else if k=12 then [33,61] else if k=13 then [60] else if k=14 then [60,61] else if k=15 then [62] else if k=16 then [62,61]
 else if k=17 then [97,110,100] else [111,114]
def lJ:List Bs:=[[],[109,117,115,116],[109,97,121],[99,111,117,110,116],[98,111,117,110,100,115],[118,97,108,117,101,115],[119,104,121],[98,108,97,109,101],[108,111,111,107]]
def gH (L:Nat→List Pz):Nat→List Pz
 | 0=>[]
 | m+1=>if m=0 then L 0 else gH L m ++ tz [44] (-1) :: cZ true (L m)
section
variable (T:Tr) (B:Nat→List Pz)
def dU (i j:Nat):List Pz :=
 let k:=((nd T i).kids.getD j 0).toNat
 if zF (nd T i).kind j (nd T k).kind then B k else tz [40] (-1) :: (cZ false (B k) ++ [tz [41] (-1)])
def ig (i:Nat)(m:Nat):List Pz:=gH (dU T B i) m
def nG (n:Int)(x:Int):List Pz:=if n < 0 then [tz [45] x,tz (Go.Lib.itoa (-n)) (-1)] else [tz (Go.Lib.itoa n) x]
def bQ (i:Nat):List Pz :=
 let n:=nd T i
 let x:Int:=(i:Int)
 let kid:=dU T B i
 if n.kind=1 then nG n.n x
 else if n.kind=2 then [tz (if n.n=1 then [116,114,117,101] else [102,97,108,115,101]) x]
 else if n.kind=3∨n.kind=32 then [tz n.text x]
 else if n.kind=4 then tz [45] x :: cZ (decide (((kid 0).headD default).text=[45])) (kid 0)
 else if n.kind=5 then tz [110,111,116] x :: cZ true (kid 0)
 else if n.kind=19 then tz [105,102] x :: (cZ true (kid 0) ++ lz [116,104,101,110] (-1) :: (cZ true (kid 1) ++ lz [101,108,115,101] (-1) :: cZ true (kid 2)))
 else if n.kind=20 then tz [108,101,116] x :: lz n.text (-1) :: lz [61] (-1) :: (cZ true (kid 0) ++ lz [105,110] (-1) :: cZ true (kid 1))
 else if n.kind=21 then tz n.text x :: tz [40] (-1) :: (cZ false (ig T B i n.kids.length) ++ [tz [41] (-1)])
 else if n.kind=22 then kid 0 ++ [tz [46] x,tz n.text (-1)]
 else if n.kind=23 then kid 0 ++ tz [91] x :: (cZ false (kid 1) ++ [tz [93] (-1)])
 else if n.kind=24 then tz n.text x :: tz [123] (-1) :: (cZ false (ig T B i n.kids.length) ++ [tz [125] (-1)])
 else if n.kind=25∨n.kind=34 then tz n.text x :: tz [58] (-1) :: cZ true (kid 0)
 else if n.kind=26 then tz [91] x :: (cZ false (ig T B i n.kids.length) ++ [tz [93] (-1)])
 else if n.kind=30 then [tz [105,110,116] x]
 else if n.kind=31 then [tz [98,111,111,108] x]
 else if n.kind=33 then tz [91] x :: (cZ false (kid 0) ++ tz [59] (-1) :: lz (Go.Lib.itoa n.n) (-1) :: [tz [93] (-1)])
 else if n.kind=40 then tz [99,104,111,111,115,101] x :: lz n.text (-1) :: tz [58] (-1) :: (cZ true (kid 0) ++ tz [46,46] (-1) :: (cZ false (kid 1) ++ [tz [59] (-1)]))
 else if n.kind=41 then tz [116,121,112,101] x :: lz n.text (-1) :: lz [61] (-1) :: lz [123] (-1) :: (cZ false (ig T B i n.kids.length) ++ [tz [125] (-1),tz [59] (-1)])
 else if n.kind=42 then tz [102,117,110] x :: lz n.text (-1) :: tz [40] (-1) :: (cZ false (ig T B i (n.kids.length - 2)) ++ tz [41] (-1) :: tz [58] (-1) :: (cZ true (kid (n.kids.length - 2)) ++
   ((if 0 < n.n then [lz [117,112,116,111] (-1),lz (Go.Lib.itoa n.n) (-1)] else []) ++ lz [61] (-1) :: (cZ true (kid (n.kids.length - 1)) ++ [tz [59] (-1)]))))
 else if n.kind=43 then tz [108,101,116] x :: lz n.text (-1) :: lz [61] (-1) :: (cZ true (kid 0) ++ [tz [59] (-1)])
 else if n.kind=44 then tz [111,98,115,101,114,118,101] x :: lz n.text (-1) :: tz [58] (-1) :: (cZ true (kid 0) ++ [tz [59] (-1)])
 else if n.kind=45 then [tz [114,101,116,114,97,99,116] x,lz n.text (-1),tz [59] (-1)]
 else if n.kind=46 then tz [97,115,107] x :: lz (lJ.getD n.n.toNat []) (-1) :: (cZ true (ig T B i n.kids.length) ++ [tz [59] (-1)])
 else kid 0 ++ lz (Ej n.kind) x :: cZ true (kid 1)
end
def aQ (T:Tr):Nat→Nat→List Pz
 | 0,_=>[]
 | f+1,i=>bQ T (aQ T f) i
def dX:List Pz→Bs
 | []=>[]
 | p :: r=>(if p.blank then [32] else []) ++ (p.text ++ dX r)
end Mist
namespace Mist
theorem au (b:Bool)(l:List Pz):(cZ b l).length=l.length:=by cases l <;> rfl
theorem Xo (b:Bool){l:List Pz}(h:l ≠ [])(r:List Pz):cZ b (l ++ r)=cZ b l ++ r:=by
 cases l with
 | nil=>exact absurd rfl h
 | cons x l=>rfl
def ag1 (ps:List Pz)(t:Bs)(n:Int):List Pz:=ps ++ [⟨t,decide (0 < ps.length),n⟩]
def nK (a:Nat)(ps:List Pz):List Pz:=ps.modify a fun p=>⟨p.text,false,p.node⟩
theorem WB (ps l:List Pz)(b:Bool):nK ps.length (ps ++ cZ b l)=ps ++ cZ false l:=by
 induction ps with
 | nil=>cases l <;> rfl
 | cons x ps a =>
  show nK (ps.length+1) (x :: (ps ++ cZ b l))=x :: (ps ++ cZ false l)
  rw [← a];rfl
def iL (ps l:List Pz):List Pz:=ps ++ cZ (decide (0 < ps.length)) l
theorem aey (ps:List Pz)(t:Bs)(n:Int):ag1 ps t n=iL ps [tz t n]:=rfl
theorem Vs {ps:List Pz}(h:0 < ps.length)(l:List Pz):iL ps l=ps ++ cZ true l:=by unfold iL;rw [amW h]
theorem d_ (ps l:List Pz):(iL ps l).length=ps.length+l.length:=by unfold iL;rw [amQ,au]
theorem wO (ps:List Pz){l:List Pz}(h:l ≠ [])(r:List Pz):iL ps (l ++ r)=iL ps l ++ r:=by
 unfold iL;rw [Xo _ h,List.append_assoc]
theorem tJ (ps:List Pz)(l r:List Pz)(h:l ≠ []):iL (iL ps l) r=iL ps (l ++ cZ true r):=by
 have h1:0 < (iL ps l).length:=by
  rw [d_]
  have:0 < l.length:=List.length_pos_iff.2 h
  omega
 rw [Vs h1,wO _ h]
theorem wJ (ps l:List Pz):nK ps.length (iL ps l)=ps ++ cZ false l:=WB _ _ _
section
variable {T:Tr} {B:Nat→List Pz}
theorem Ve {i j:Nat}(a:B ((nd T i).kids.getD j 0).toNat ≠ []):dU T B i j ≠ []:=by
 unfold dU;simp only
 split
 ·exact a
 ·simp
end
theorem OJ {L:Nat→List Pz}{m:Nat}(a:L 0 ≠ [])(b:0 < m):gH L m ≠ []:=by
 cases m with
 | zero=>omega
 | succ m =>
  rw [gH];split
  ·exact a
  ·simp
theorem Lr (ps:List Pz):iL ps []=ps:=by unfold iL;exact List.append_nil ps
theorem XQ (ps:List Pz)(L:Nat→List Pz):iL ps (gH L 1)=iL (iL ps (gH L 0)) (L 0):=by
 show iL ps (L 0)=iL (iL ps []) (L 0)
 rw [Lr]
theorem ab4 (ps:List Pz)(L:Nat→List Pz){m:Nat}(h0:L 0 ≠ [])(a:0 < m):iL ps (gH L (m+1))=iL (iL ps (gH L m) ++ [tz [44] (-1)]) (L m):=by
 have e:gH L (m+1)=gH L m ++ tz [44] (-1) :: cZ true (L m):=by rw [gH,if_neg (by omega)]
 rw [e,wO _ (OJ h0 a),Vs (ps:=iL ps (gH L m) ++ [tz [44] (-1)]) (by simp),List.append_assoc];rfl
end Mist
namespace Go.Proofs.YtalghggmkojblaaGreatDoor
section
open Go.RowKit Mist
attribute [local go_sem] ak aN aV aF
theorem rV {k:IntKind}{a b:Int}(h:a=b):Ending.returned (.int k a)=.returned (.int k b):=by rw [h]
theorem bM {a b:Bool}(h:a=b):Ending.returned (.bool a)=.returned (.bool b):=by rw [h]
theorem YW (b:UInt8)(w:World) :
  Calls Tryz.prog 95 #[.int .u8 b.toNat] w fun e a=>e=.returned (.bool (iJ b))∧w=a:=by
 go_in
 go_wp2
 all_goals
  go_ret
  refine⟨bM ?_,rfl⟩
  rw [amK];simp [iJ,UInt8.le_iff_toNat_le,← UInt8.toNat_inj] <;> omega
theorem adZ (b:UInt8)(w:World) :
  Calls Tryz.prog 96 #[.int .u8 b.toNat] w fun e a=>e=.returned (.bool (xC b))∧w=a:=by
 go_in
 go_wp2
 all_goals
  go_ret
  refine⟨bM ?_,rfl⟩
  rw [amK];simp [xC,← UInt8.toNat_inj] <;> omega
theorem Tg (b:UInt8)(w:World) :
  Calls Tryz.prog 98 #[.int .u8 b.toNat] w fun e a=>e=.returned (.bool (kM b))∧w=a:=by
 go_in
 go_wp2
 all_goals
  go_ret
  refine⟨bM ?_,rfl⟩
  rw [amK];simp [kM,← UInt8.toNat_inj] <;> omega
theorem wU (b:UInt8)(w:World) :
  Calls Tryz.prog 99 #[.int .u8 b.toNat] w fun e a=>e=.returned (.bool (fF b))∧w=a:=by
 go_in
 go_wp2
 all_goals
  go_ret
  refine⟨bM ?_,rfl⟩
  rw [amK];simp [fF,UInt8.le_iff_toNat_le] <;> omega
theorem Df (b:UInt8)(w:World) :
  Calls Tryz.prog 103 #[.int .u8 b.toNat] w fun e a=>e=.returned (.bool (bJ b))∧w=a:=by
 go_in
 go_wp2
 all_goals
  go_ret
  refine⟨bM ?_,rfl⟩
  rw [amK];simp [bJ,UInt8.le_iff_toNat_le] <;> omega
theorem acu (b:UInt8)(w:World) :
  Calls Tryz.prog 100 #[.int .u8 b.toNat] w fun e a=>e=.returned (.bool (dM b))∧w=a:=by
 go_in
 go_wp2
 all_goals
  go_ret
  refine⟨bM ?_,rfl⟩
  rw [amK];simp [dM,fF,bJ,UInt8.le_iff_toNat_le] <;> omega
theorem tV (p:UInt8→Bool)(l:Bs)(n:Nat)(h:n≤l.length)(a:∀ c ∈ l.take n,p c=true)(b:n=l.length∨n < l.length∧p (gt l n)=false):aZ p l=n:=by
 unfold aZ;have h1:l=l.take n ++ l.drop n:=(List.take_append_drop n l).symm;rw [h1,List.takeWhile_append_of_pos a]
 have h2:(l.drop n).takeWhile p=[]:=by
  rcases b with rfl | ⟨e,d⟩
  ·simp
  ·rw [zV l n e,List.takeWhile_cons,d];rfl
 rw [h2];simp;omega
theorem zC (p:UInt8→Bool)(l:Bs)(n:Nat)(h:n < l.length)(a:∀ c ∈ l.take n,p c=true)(d:p (gt l n)=true):∀ c ∈ l.take (n+1),p c=true:=by
 rw [ae7 l n h];simp only [List.mem_append,List.mem_singleton];rintro c (b | rfl)
 ·exact a c b
 ·exact d
theorem Im (l:Bs)(w:World)(j:l.length≤100000000) :
  Calls Tryz.prog 97 #[.string (aG l),.func (.func 100) #[] #[]] w fun e h=>e=.returned (.int .i64 (aZ dM l))∧w=h:=by
 go_in
 go_wp2;go_loop [5] (fun i=>∃ n:Nat,n≤l.length∧i=.int .i64 n∧(∀ c ∈ l.take n,dM c=true)) (fun i=>l.length - (intOf i).toNat)
 case atStart=>exact⟨0,amN _,rfl,by simp⟩
 case round =>
  obtain⟨n,g,rfl,a⟩:=hrel;have d:=O a;clear a;by_cases b:n < l.length
  ·go_wp2_with (go_at_call 100;refine (acu _ _).mono ?_;rintro e h ⟨rfl,rfl⟩)
   ·have f:dM (gt l n)=true:=by assumption
    exact⟨⟨n+1,by omega,by go_num,zC _ _ _ b d.o f⟩,by simp [intOf];omega⟩
   ·have f:dM (gt l n)=false:=by assumption
    go_ret;exact⟨rV (by rw [tV _ _ _ g d.o (.inr ⟨b,f⟩)]),rfl⟩
  ·go_wp2;go_ret;exact⟨rV (by rw [tV _ _ _ g d.o (.inl (by omega))]),rfl⟩
theorem Qh (l:Bs)(w:World)(j:l.length≤100000000) :
  Calls Tryz.prog 97 #[.string (aG l),.func (.func 103) #[] #[]] w fun e h=>e=.returned (.int .i64 (aZ bJ l))∧w=h:=by
 go_in
 go_wp2;go_loop [5] (fun i=>∃ n:Nat,n≤l.length∧i=.int .i64 n∧(∀ c ∈ l.take n,bJ c=true)) (fun i=>l.length - (intOf i).toNat)
 case atStart=>exact⟨0,amN _,rfl,by simp⟩
 case round =>
  obtain⟨n,g,rfl,a⟩:=hrel;have d:=O a;clear a;by_cases b:n < l.length
  ·go_wp2_with (go_at_call 103;refine (Df _ _).mono ?_;rintro e h ⟨rfl,rfl⟩)
   ·have f:bJ (gt l n)=true:=by assumption
    exact⟨⟨n+1,by omega,by go_num,zC _ _ _ b d.o f⟩,by simp [intOf];omega⟩
   ·have f:bJ (gt l n)=false:=by assumption
    go_ret;exact⟨rV (by rw [tV _ _ _ g d.o (.inr ⟨b,f⟩)]),rfl⟩
  ·go_wp2;go_ret;exact⟨rV (by rw [tV _ _ _ g d.o (.inl (by omega))]),rfl⟩
theorem Ml (l:Bs)(w:World)(j:l.length≤100000000) :
  Calls Tryz.prog 97 #[.string (aG l),.func (.func 98) #[] #[]] w fun e h=>e=.returned (.int .i64 (aZ kM l))∧w=h:=by
 go_in
 go_wp2;go_loop [5] (fun i=>∃ n:Nat,n≤l.length∧i=.int .i64 n∧(∀ c ∈ l.take n,kM c=true)) (fun i=>l.length - (intOf i).toNat)
 case atStart=>exact⟨0,amN _,rfl,by simp⟩
 case round =>
  obtain⟨n,g,rfl,a⟩:=hrel;have d:=O a;clear a;by_cases b:n < l.length
  ·go_wp2_with (go_at_call 98;refine (Tg _ _).mono ?_;rintro e h ⟨rfl,rfl⟩)
   ·have f:kM (gt l n)=true:=by assumption
    exact⟨⟨n+1,by omega,by go_num,zC _ _ _ b d.o f⟩,by simp [intOf];omega⟩
   ·have f:kM (gt l n)=false:=by assumption
    go_ret;exact⟨rV (by rw [tV _ _ _ g d.o (.inr ⟨b,f⟩)]),rfl⟩
  ·go_wp2;go_ret;exact⟨rV (by rw [tV _ _ _ g d.o (.inl (by omega))]),rfl⟩
theorem DN {s:Bs}{a b:Nat}{x y:Int}(h:check s=(a,b))(c:x=a)(hy:y=b):Ending.returned (.tuple #[.int .i64 x,.int .i64 y])=.returned (.tuple #[.int .i64 (check s).1,.int .i64 (check s).2]):=by
 subst c;subst hy;rw [h]
theorem adg (p:UInt8→Bool)(l:Bs)(n:Nat)(h:l.length≤n)(a:∀ c ∈ l.take n,p c=true):∀ c ∈ l,p c=true:=by
 rwa [amP h] at a
theorem ai6 {b:UInt8}{k:Nat}(a:k < 256)(e:(b.toNat:Int)=k):b=UInt8.ofNat k:=by
 apply UInt8.toNat_inj.1
 rw [UInt8.toNat_ofNat'];omega
theorem ai5 {b:UInt8}{k:Nat}(a:k < 256)(e:¬ (b.toNat:Int)=k):b ≠ UInt8.ofNat k:=by
 intro g;apply e
 rw [g,UInt8.toNat_ofNat'];omega
theorem agd {b:UInt8}{k:Int}(h:((b.toNat:Int) == k)=true):(b.toNat:Int)=k:=beq_iff_eq.1 h
theorem agf {b:UInt8}{k:Int}(h:((b.toNat:Int) == k)=false):¬ (b.toNat:Int)=k:=by simpa using h
theorem Jl (l:Bs)(w:World)(h:l.length≤100000000) :
  Calls Tryz.prog 64 #[.string (aG l)] w fun e g=>e=.returned (.tuple #[.int .i64 (check l).1,.int .i64 (check l).2])∧w=g:=by
 by_cases h2:2000 < l.length
 ·go_in
  go_wp2;go_ret2
  exact⟨DN (RH l h2) rfl rfl,rfl⟩
 ·have h2:l.length≤2000:=Nat.le_of_not_lt h2;go_in
  go_wp2;go_loop [10] (fun i=>∃ n:Nat,n≤l.length∧i=.int .i64 n∧(∀ c ∈ l.take n,iJ c=true)) (fun i=>l.length - (intOf i).toNat)
  case atStart=>exact⟨0,amN _,rfl,by simp⟩
  case round =>
   obtain⟨n,j,rfl,a⟩:=hrel;have d:=O a;clear a;by_cases b:n < l.length
   ·go_wp2_with (go_at_call 95;refine (YW _ _).mono ?_;rintro e g ⟨rfl,rfl⟩)
    ·have f:iJ (gt l n)=false:=by simpa using (by assumption:(!iJ (gt l n))=true)
     go_ret2
     exact⟨DN (Wy l n h2 b d.o f) rfl rfl,rfl⟩
    ·have f:iJ (gt l n)=true:=by simpa using (by assumption:(!iJ (gt l n))=false)
     exact⟨⟨n+1,by omega,by go_num,zC _ _ _ b d.o f⟩,by simp [intOf];omega⟩
   ·go_wp2;go_ret2
    exact⟨DN (aaz l h2 (adg _ _ _ (by omega) d.o)) rfl rfl,rfl⟩
theorem Qa (l:Bs)(w:World)(m:l.length≤100000000) :
  Calls Tryz.prog 65 #[.string (aG l)] w fun e g=>e=.returned (.int .i64 (skip l))∧w=g:=by
 go_in
 go_wp2;go_loop [3] (fun i=>∃ n:Nat,n≤l.length∧i=.int .i64 n∧skip l=n+skip (l.drop n)) (fun i=>l.length - (intOf i).toNat)
 case atStart=>exact⟨0,amN _,rfl,by simp⟩
 case round =>
  obtain⟨n,q,rfl,b⟩:=hrel;have c:=O b;clear b;by_cases a:n < l.length
  ·have j:aZ kM (l.drop n)≤l.length - n:=by have:=qW kM (l.drop n);simpa using this
   go_wp2_with (first
    | (go_at_call 96;refine (adZ _ _).mono ?_;rintro e g ⟨rfl,rfl⟩)
    | (go_at_call 97;refine (Ml (l.drop n) _ (by simp;omega)).mono ?_;rintro e g ⟨rfl,rfl⟩))
   ·have f:xC (gt l n)=true:=by assumption
    exact⟨⟨n+1,by omega,by go_num,by have:=c.o;have:=adb l n a f;omega⟩,by simp [intOf];omega⟩
   ·have d:gt l n=35:=ai6 (k:=35) (by omega) (agd (by assumption));have h:=I8 l n a d;exact⟨⟨n+aZ kM (l.drop n),by omega,by go_num,by have:=c.o;have:=YQ l n a d;omega⟩,by simp [intOf];omega⟩
   ·have f:xC (gt l n)=false:=by assumption
    have d:gt l n ≠ 35:=ai5 (k:=35) (by omega) (agf (by assumption));go_ret;exact⟨rV (by have:=c.o;have:=YR l n a f d;omega),rfl⟩
  ·go_wp2;go_ret;exact⟨rV (by have:=c.o;have:=ada l n (by omega);omega),rfl⟩
theorem OC (l:Bs):iB l=(decide (l.length≤4) && (l.length == 1 || ((gt l 0).toNat:Int) != 48)):=by
 have:(gt l 0 != 48)=(((gt l 0).toNat:Int) != 48):=by
  rw [amK];simp [← UInt8.toNat_inj]
  omega
 rw [iB,this]
theorem K_ (l:Bs)(w:World)(d:l.length≤100000000)(h0:0 < l.length) :
  Calls Tryz.prog 104 #[.string (aG l)] w fun e c=>e=.returned (.bool (iB l))∧w=c:=by
 have a:=O (OC l);by_cases h4:l.length≤4
 ·by_cases h1:((l.length:Int) == 1)=true
  ·go_in
   go_wp2;go_ret
   refine⟨bM ?_,rfl⟩
   rw [a.o];simp at h1
   simp;omega
  ·have b:((l.length:Int) == 1)=false:=by simpa using h1
   clear h1;go_in
   go_wp2;go_ret
   refine⟨bM ?_,rfl⟩
   rw [a.o];simp at b
   simp [h4];omega
 ·go_in
  go_wp2;go_ret
  refine⟨bM ?_,rfl⟩
  rw [a.o];simp;omega
def Env (w : World) : Prop := ∃ B, B ≤ w.heap.size ∧ Lib.TabBelow Tryz.prog B w "strings.asciiSpace" IntKind.u8 Lib.asciiSpaceTab
theorem Env.tab {w : World} (h : Env w) : Lib.TabIs Tryz.prog w "strings.asciiSpace" IntKind.u8 Lib.asciiSpaceTab := by
 obtain⟨B,_,h⟩:=h;exact h.here
theorem Env.below {w e:World}(h:Env w)(d:Below w.heap.size w e):Env e:=by
 obtain⟨B,c,h⟩:=h;exact⟨B,Nat.le_trans c d.size,fun b a=>h b ((d.mono c).trans a)⟩
theorem Env.alloc {w:World}(h:Env w)(o:Obj):Env (w.alloc o):=h.below ((Below.refl _ _).alloc (amL _) o)
theorem Env.drew {w:World}(h:Env w):Env w.drew:=h.below ((Below.refl _ _).drew)
def ng (l:List Bs):Array Value:=(l.map fun x=>Value.string (aG x)).toArray
theorem Ia (l:List Bs)(i:Nat)(h:i < l.length):(ng l)[i]? = some (.string (aG (sg l i))):=by
 simp [ng,sg,h]
theorem FM (l:List UInt8)(h:l.all (fun b=>decide (b.toNat < 128))=true):∀ (j:Nat) (b:UInt8),l[j]? = some b→b.toNat < 128:=by
 intro j b a
 have:=amT.1 h b (amO a)
 simpa using this
theorem ED:Lib.fields [97,110,100,32,97,115,107,32,98,108,97,109,101,32,98,111,111,108,32,98,111,117,110,100,115,32,99,104,111,111,115,101,32,99,111,117,110,116,32,101,108,115,101,32,102,97,108,115,101,32,102,117,110,32,105,102,32,105,110,32,105,110,116,32,108,101,116,32,108,111,111,107,32,109,97,121,32,109,117,115,116,32,110,111,116,32,111,98,115,101,114,118,101,32,111,114,32,114,101,116,114,97,99,116,32,116,104,101,110,32,116,114,117,101,32,116,121,112,101,32,117,112,116,111,32,118,97,108,117,101,115,32,119,104,121]=keywords:=by decide +kernel
theorem L_:Lib.fields [61,61,32,33,61,32,60,61,32,62,61,32,46,46,32,43,32,45,32,42,32,47,32,37,32,60,32,62,32,61,32,40,32,41,32,91,32,93,32,123,32,125,32,44,32,58,32,59,32,46]=signs:=by decide +kernel
theorem Az (w:World)(a:Env w) :
  Calls Tryz.prog 102 #[] w fun e b=>e=.returned (.slice (some ⟨w.heap.size,0,none⟩) 27 27)∧w.alloc (.cells (ng keywords) 9)=b:=by
 go_in
 go_wp2_with (go_at_call 90;refine (Tryz.strings_Fields_laid _ _ ?c1 ?c2 a.tab).mono ?_)
 case c1=>decide +kernel
 case c2=>exact FM _ (by decide +kernel)
 ·go_ret;simp only [ED];exact⟨rfl,rfl⟩
theorem YM (w:World)(a:Env w) :
  Calls Tryz.prog 105 #[] w fun e b=>e=.returned (.slice (some ⟨w.heap.size,0,none⟩) 23 23)∧w.alloc (.cells (ng signs) 9)=b:=by
 go_in
 go_wp2_with (go_at_call 90;refine (Tryz.strings_Fields_laid _ _ ?c1 ?c2 a.tab).mono ?_)
 case c1=>decide +kernel
 case c2=>exact FM _ (by decide +kernel)
 ·go_ret;simp only [L_];exact⟨rfl,rfl⟩
theorem VL {w:World}{b:Nat}{xs:List Bs}{T:TypeId}{fr:Nat × Nat}(a:w.heap[b]? = some (.cells (ng xs) T fr))(j:Nat)(h:j < xs.length) :
  w.cell? ⟨b,j,none⟩=some (.string (aG (sg xs j))):=by
 rw [Lib.cell_of_heap a];exact Ia xs j h
theorem um (xs:List Bs)(x:Bs)(b c n T:Nat)(fr:Nat × Nat)(w:World)(g:w.heap[b]? = some (.cells (ng xs) T fr))(m:xs.length≤1000)(k:n=xs.length) :
  Calls Tryz.prog 101 #[.slice (some ⟨b,0,none⟩) n c,.string (aG x)] w fun e f=>e=.returned (.bool (hasB xs x))∧w=f:=by
 subst k;refine (Tryz.slices_Contains_string b 0 xs.length c (xs.map aG) (aG x) w (by simp) (by omega) ?_).mono ?_
 ·intro j i;have d:j < xs.length:=by simpa using i
  rw [Nat.zero_add,VL g j d];simp [d,sg]
 ·rintro e f ⟨rfl,rfl⟩
  refine⟨bM ?_,rfl⟩
  rw [amK,Lib.containsS_iff];simp only [hasB,List.contains_iff_mem];rw [amP (by simp),List.mem_map];constructor
  ·rintro⟨a,l,e⟩
   rwa [← aew e]
  ·exact fun h=>⟨x,h,rfl⟩
theorem IQ (s p:Bs)(w:World) :
  Calls Tryz.prog 106 #[.string (aG s),.string (aG p)] w fun e a=>e=.returned (.bool (rR p s))∧w=a :=
 (Tryz.strings_HasPrefix (aG s) (aG p) w).mono fun _ _ h=>⟨h.1,h.2.symm⟩
theorem wR {k:Nat}{t:Bs}{l:Bs}{a:Int}{b:Bs}(h:first l=(k,t))(c:a=k)(d:b=t) :
  Ending.returned (.tuple #[.int .u8 a,.string (aG b)])=.returned (.tuple #[.int .u8 (first l).1,.string (aG (first l).2)]):=by
 subst c;subst d;rw [h]
theorem wE (l:Bs)(w:World)(G:Env w)(D:l.length≤100000000) :
  Calls Tryz.prog 66 #[.string (aG l)] w fun e a=>e=.returned (.tuple #[.int .u8 (first l).1,.string (aG (first l).2)])∧Below w.heap.size w a:=by
 have y:=O G;clear G;by_cases h00:l.length=0
 ·have C:l.isEmpty=true:=by cases l <;> simp_all
  have f:=O h00;clear h00;go_in
  go_wp2;go_ret2
  exact⟨wR (b:=[]) (rM l f.o) rfl rfl,Below.refl _ _⟩
 have C:l.isEmpty=false:=by cases l <;> simp_all
 have h0:0 < l.length:=by omega
 have f:=O h00;clear h00;by_cases h:fF (gt l 0)=true
 ·have K:=qW dM l;have d:=heap_alloc_new w (.cells (ng keywords) 9);have g:=O d;clear d;have c:Below w.heap.size w (w.alloc (.cells (ng keywords) 9)):=(Below.refl _ _).alloc (amL _) _;have q:=O c;clear c;by_cases t:hasB keywords (l.take (aZ dM l))=true
  ·go_in
   go_wp2_with (first
    | (go_at_call 99;refine (wU _ _).mono ?_;rintro e a ⟨rfl,rfl⟩)
    | (go_at_call 97;refine (Im l _ D).mono ?_;rintro e a ⟨rfl,rfl⟩)
    | (go_at_call 102;refine (Az _ y.o).mono ?_;rintro e a ⟨rfl,rfl⟩)
    | (go_at_call 101;refine (um keywords _ _ _ _ _ _ _ g.o (by decide) rfl).mono ?_;rintro e a ⟨rfl,rfl⟩))
   go_ret2
   exact⟨wR (oN l f.o h t) rfl rfl,q.o⟩
  ·have I:hasB keywords (l.take (aZ dM l))=false:=by simpa using t
   by_cases j:aZ dM l≤12
   case' pos=>have m:=O (kK l f.o h t j)
   case' neg=>have m:=O (oh l f.o h t j)
   all_goals
    clear t;go_in
    go_wp2_with (first
     | (go_at_call 99;refine (wU _ _).mono ?_;rintro e a ⟨rfl,rfl⟩)
     | (go_at_call 97;refine (Im l _ D).mono ?_;rintro e a ⟨rfl,rfl⟩)
     | (go_at_call 102;refine (Az _ y.o).mono ?_;rintro e a ⟨rfl,rfl⟩)
     | (go_at_call 101;refine (um keywords _ _ _ _ _ _ _ g.o (by decide) rfl).mono ?_;rintro e a ⟨rfl,rfl⟩))
    go_ret2
    exact⟨wR (by first | exact m.o) rfl rfl,q.o⟩
 have J:fF (gt l 0)=false:=by simpa using h
 by_cases hd:bJ (gt l 0)=true
 ·have K:=qW bJ l
  have v:0 < aZ bJ l:=by
   unfold aZ
   cases l with
   | nil=>simp at h0
   | cons b r=>have A:bJ b=true:=hd;rw [List.takeWhile_cons_of_pos A];simp
  by_cases j:iB (l.take (aZ bJ l))=true
  case' pos=>have m:=O (l9 l f.o h hd j)
  case' neg=>have m:=O (oO l f.o h hd j);have j:iB (l.take (aZ bJ l))=false:=by simpa using j
  all_goals
   clear h;go_in
   go_wp2_with (first
    | (go_at_call 99;refine (wU _ _).mono ?_;rintro e a ⟨rfl,rfl⟩)
    | (go_at_call 103;refine (Df _ _).mono ?_;rintro e a ⟨rfl,rfl⟩)
    | (go_at_call 97;refine (Qh l _ D).mono ?_;rintro e a ⟨rfl,rfl⟩)
    | (go_at_call 104;refine (K_ (l.take (aZ bJ l)) _ (by simp;omega) (by simp;omega)).mono ?_;rintro e a ⟨rfl,rfl⟩))
   go_ret2
   exact⟨wR (by exact m.o) rfl rfl,Below.refl _ _⟩
 ·have H:bJ (gt l 0)=false:=by simpa using hd
  have d:=heap_alloc_new w (.cells (ng signs) 9);have g:=O d;clear d;have c:Below w.heap.size w (w.alloc (.cells (ng signs) 9)):=(Below.refl _ _).alloc (amL _) _;have q:=O c;clear c;have F:=O h;clear h;have E:=O hd;clear hd;go_in
  go_wp2_with (first
   | (go_at_call 99;refine (wU _ _).mono ?_;rintro e a ⟨rfl,rfl⟩)
   | (go_at_call 103;refine (Df _ _).mono ?_;rintro e a ⟨rfl,rfl⟩)
   | (go_at_call 105;refine (YM _ y.o).mono ?_;rintro e a ⟨rfl,rfl⟩))
  go_loop [42] (fun i=>∃ n:Nat,n≤23∧i=.int .i64 n∧Dy l n) (fun i=>23 - (intOf i).toNat)
  case atStart=>exact⟨0,amN _,rfl,OY _⟩
  case round =>
   obtain⟨n,j,rfl,u⟩:=hrel;have x:=O u;clear u;by_cases k:n < 23
   ·have L:=VL g.o n (show n < signs.length from k);go_wp2_with (go_at_call 106;refine (IQ _ _ _).mono ?_;rintro e a ⟨rfl,rfl⟩)
    ·have v:rR (sg signs n) l=true:=by assumption
     go_ret2
     exact⟨wR (m_ l f.o F.o E.o _ (Ub l n k x.o v)) rfl rfl,q.o⟩
    ·have v:rR (sg signs n) l=false:=by assumption
     exact⟨⟨n+1,by omega,by go_num,OX l n k x.o v⟩,by simp [intOf];omega⟩
   ·go_wp2;go_ret2
    have e:n=23:=by omega
    exact⟨wR (b:=[]) (mZ l f.o F.o E.o (P7 l (e ▸ x.o))) rfl rfl,q.o⟩
theorem mJ {B:Nat}{a w:World}(h:Below B a w)(n:Nat):Below B a (w.drewN n):=h.trans ⟨rfl,rfl,rfl,amL _,fun _ _=>rfl⟩
end
section
open Go.RowKit Mist
attribute [local go_sem] ak aN aV aF aj
theorem acM {l:Bs}{a b:Int}(c:a=kind l)(d:b=jy l):Ending.returned (.tuple #[.int .u8 a,.int .i64 b])=.returned (.tuple #[.int .u8 (kind l),.int .i64 (jy l)]):=by
 rw [c,d]
theorem SY (l:Bs):((((first l).1:Int) == 0)=true∧kind l=0∧jy l=4)∨((((first l).1:Int) == 0)=false∧((first l).2 == l)=false∧kind l=0∧jy l=4) ∨
  ((((first l).1:Int) == 0)=false∧((first l).2 == l)=true∧kind l=(first l).1∧jy l=0):=by
 by_cases h:(first l).1=0
 ·have:kind l=0:=by unfold kind;rw [h];simp
  exact .inl ⟨by simp [h],this,by simp [jy,this]⟩
 ·by_cases g:(first l).2=l
  ·have:kind l=(first l).1:=by unfold kind;rw [if_pos g]
   exact .inr (.inr ⟨by simp;omega,by simp [g],this,by simp [jy,this,h]⟩)
  ·have:kind l=0:=by unfold kind;rw [if_neg g]
   exact .inr (.inl ⟨by simp;omega,by simp [g],this,by simp [jy,this]⟩)
theorem AA (l:Bs)(w:World)(c:Env w)(h:l.length≤100000000) :
  Calls Tryz.prog 150 #[.string (aG l)] w fun e d=>e=.returned (.tuple #[.int .u8 (kind l),.int .i64 (jy l)])∧Below w.heap.size w d:=by
 have f:=O c;clear c;rcases SY l with ⟨h1,a⟩ | ⟨h1,h2,a⟩ | ⟨h1,h2,a⟩
 all_goals
  have b:=O a;clear a;go_in
  go_wp2_with (go_at_call 66;refine (wE l _ f.o h).mono ?_;rintro e d ⟨rfl,g⟩)
  go_ret2
  exact⟨acM (by simp [b.o.1]) (by simp [b.o.2]),g⟩
theorem SS (l:Bs):((jy l:Int) == 0)=!((kind l:Int) == 0):=by
 rw [amK];unfold jy;split <;> simp_all
theorem K9 (l:Bs):(((jy l:Int) == 0)=true∧isName l=((kind l:Int) == 1))∨(((jy l:Int) == 0)=false∧isName l=false):=by
 rw [SS];by_cases h:kind l=0
 ·exact .inr ⟨by simp [h],by simp [isName,h]⟩
 ·refine .inl ⟨by simp [h],?_⟩;rw [amK,isName];simp;omega
theorem Gn (l:Bs)(w:World)(b:Env w)(h:l.length≤100000000) :
  Calls Tryz.prog 115 #[.string (aG l)] w fun e c=>e=.returned (.bool (isName l))∧Below w.heap.size w c:=by
 have d:=O b;clear b;rcases K9 l with ⟨h1,a⟩ | ⟨h1,a⟩
 all_goals
  have f:=O a;clear a;go_in
  go_wp2_with (go_at_call 150;refine (AA l _ d.o h).mono ?_;rintro e c ⟨rfl,g⟩)
  go_ret;exact⟨bM f.o.symm,g⟩
end
