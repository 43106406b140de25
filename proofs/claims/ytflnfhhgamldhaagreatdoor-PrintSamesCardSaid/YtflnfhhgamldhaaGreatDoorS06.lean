/-
  A part of the proof.
-/
import Derived.WalkSpells
import Derived.WalkLawsBesides
import Derived.Handy
import Derived.Lib.AppendIntMem
import Derived.Lib.SmallJoins
import Derived.Test.YtflnfhhgamldhaaGreatDoorShelf
import Derived.Test.YtflnfhhgamldhaaGreatDoorS02
set_option linter.all false
set_option maxRecDepth 100000
set_option maxHeartbeats 1000000
namespace Mist
structure Pz where
 text:Bs
 blank:Bool
 node:Int
 deriving DecidableEq,Inhabited
def pU (k:Nat):Nat :=
 if k=19∨k=20 then 1 else if k=18 then 2 else if k=17 then 3 else if k=5 then 4 else if 11≤k∧k≤16 then 5
 else if k=6∨k=7 then 6 else if k=8∨k=9∨k=10 then 7 else if k=4 then 8 else if 1≤k∧k≤26∧k ≠ 25 then 9 else 0
def xV (own:Nat)(j:Nat)(kid:Nat):Bool :=
 if own=4∨own=5∨own=22 then decide (pU own≤pU kid)
 else if own=23 then decide (0 < j) || decide (pU own≤pU kid)
 else if 6≤own∧own≤10∨own=17∨own=18 then decide (pU own < pU kid) || (decide (pU kid=pU own) && decide (j=0))
 else if 11≤own∧own≤16 then decide (pU own < pU kid)
 else true
def dI (b:Bool):List Pz→List Pz
 | []=>[]
 | p :: r=>⟨p.text,b,p.node⟩ :: r
def tz (t:Bs)(n:Int):Pz:=⟨t,false,n⟩
def lz (t:Bs)(n:Int):Pz:=⟨t,true,n⟩
def Fv (k:Nat):Bs :=
 if k=6 then [43] else if k=7 then [45] else if k=8 then [42] else if k=9 then [47] else if k=10 then [37]
 else if k=11 then [61,61] else if k=12 then [33,61] else if k=13 then [60] else if k=14 then [60,61] else if k=15 then [62] else if k=16 then [62,61]
 else if k=17 then [97,110,100] else [111,114]
def mM:List Bs:=[[],[109,117,115,116],[109,97,121],[99,111,117,110,116],[98,111,117,110,100,115],[118,97,108,117,101,115],[119,104,121],[98,108,97,109,101],[108,111,111,107]]
def gP (L:Nat→List Pz):Nat→List Pz
 | 0=>[]
 | m+1=>if m=0 then L 0 else gP L m ++ tz [44] (-1) :: dI true (L m)
section
variable (T:Tr) (B:Nat→List Pz)
def eO (i j:Nat):List Pz :=
 let k:=((nd T i).kids.getD j 0).toNat
 if xV (nd T i).kind j (nd T k).kind then B k else tz [40] (-1) :: (dI false (B k) ++ [tz [41] (-1)])
def ig (i:Nat)(m:Nat):List Pz:=gP (eO T B i) m
def nL (n:Int)(x:Int):List Pz:=if n < 0 then [tz [45] x,tz (Go.Lib.itoa (-n)) (-1)] else [tz (Go.Lib.itoa n) x]
def cZ (i:Nat):List Pz :=
 let n:=nd T i
 let x:Int:=(i:Int)
 let kid:=eO T B i
 if n.kind=1 then nL n.n x
 else if n.kind=2 then [tz (if n.n=1 then [116,114,117,101] else [102,97,108,115,101]) x]
 else if n.kind=3∨n.kind=32 then [tz n.text x]
 else if n.kind=4 then tz [45] x :: dI (decide (((kid 0).headD default).text=[45])) (kid 0)
 else if n.kind=5 then tz [110,111,116] x :: dI true (kid 0)
 else if n.kind=19 then tz [105,102] x :: (dI true (kid 0) ++ lz [116,104,101,110] (-1) :: (dI true (kid 1) ++ lz [101,108,115,101] (-1) :: dI true (kid 2)))
 else if n.kind=20 then tz [108,101,116] x :: lz n.text (-1) :: lz [61] (-1) :: (dI true (kid 0) ++ lz [105,110] (-1) :: dI true (kid 1))
 else if n.kind=21 then tz n.text x :: tz [40] (-1) :: (dI false (ig T B i n.kids.length) ++ [tz [41] (-1)])
 else if n.kind=22 then kid 0 ++ [tz [46] x,tz n.text (-1)]
 else if n.kind=23 then kid 0 ++ tz [91] x :: (dI false (kid 1) ++ [tz [93] (-1)])
 else if n.kind=24 then tz n.text x :: tz [123] (-1) :: (dI false (ig T B i n.kids.length) ++ [tz [125] (-1)])
 else if n.kind=25∨n.kind=34 then tz n.text x :: tz [58] (-1) :: dI true (kid 0)
 else if n.kind=26 then tz [91] x :: (dI false (ig T B i n.kids.length) ++ [tz [93] (-1)])
 else if n.kind=30 then [tz [105,110,116] x]
 else if n.kind=31 then [tz [98,111,111,108] x]
 else if n.kind=33 then tz [91] x :: (dI false (kid 0) ++ tz [59] (-1) :: lz (Go.Lib.itoa n.n) (-1) :: [tz [93] (-1)])
 else if n.kind=40 then tz [99,104,111,111,115,101] x :: lz n.text (-1) :: tz [58] (-1) :: (dI true (kid 0) ++ tz [46,46] (-1) :: (dI false (kid 1) ++ [tz [59] (-1)]))
 else if n.kind=41 then tz [116,121,112,101] x :: lz n.text (-1) :: lz [61] (-1) :: lz [123] (-1) :: (dI false (ig T B i n.kids.length) ++ [tz [125] (-1),tz [59] (-1)])
 else if n.kind=42 then tz [102,117,110] x :: lz n.text (-1) :: tz [40] (-1) :: (dI false (ig T B i (n.kids.length - 2)) ++ tz [41] (-1) :: tz [58] (-1) :: (dI true (kid (n.kids.length - 2)) ++
   ((if 0 < n.n then [lz [117,112,116,111] (-1),lz (Go.Lib.itoa n.n) (-1)] else []) ++ lz [61] (-1) :: (dI true (kid (n.kids.length - 1)) ++ [tz [59] (-1)]))))
 else if n.kind=43 then tz [108,101,116] x :: lz n.text (-1) :: lz [61] (-1) :: (dI true (kid 0) ++ [tz [59] (-1)])
 else if n.kind=44 then tz [111,98,115,101,114,118,101] x :: lz n.text (-1) :: tz [58] (-1) :: (dI true (kid 0) ++ [tz [59] (-1)])
 else if n.kind=45 then [tz [114,101,116,114,97,99,116] x,lz n.text (-1),tz [59] (-1)]
 else if n.kind=46 then tz [97,115,107] x :: lz (mM.getD n.n.toNat []) (-1) :: (dI true (ig T B i n.kids.length) ++ [tz [59] (-1)])
 else kid 0 ++ lz (Fv n.kind) x :: dI true (kid 1)
end
def aQ (T:Tr):Nat→Nat→List Pz
 | 0,_=>[]
 | f+1,i=>cZ T (aQ T f) i
def iI:List Pz→Bs
 | []=>[]
 | p :: r=>(if p.blank then [32] else []) ++ (p.text ++ iI r)
end Mist
namespace Mist
theorem aj (b:Bool)(l:List Pz):(dI b l).length=l.length:=by cases l <;> rfl
theorem UC (b:Bool){l:List Pz}(h:l ≠ [])(r:List Pz):dI b (l ++ r)=dI b l ++ r:=by
 cases l with
 | nil=>exact absurd rfl h
 | cons x l=>rfl
def afk (ps:List Pz)(t:Bs)(n:Int):List Pz:=ps ++ [⟨t,decide (0 < ps.length),n⟩]
def nJ (a:Nat)(ps:List Pz):List Pz:=ps.modify a fun p=>⟨p.text,false,p.node⟩
theorem TY (ps l:List Pz)(b:Bool):nJ ps.length (ps ++ dI b l)=ps ++ dI false l:=by
 induction ps with
 | nil=>cases l <;> rfl
 | cons x ps a =>
  show nJ (ps.length+1) (x :: (ps ++ dI b l))=x :: (ps ++ dI false l)
  rw [← a];rfl
def iG (ps l:List Pz):List Pz:=ps ++ dI (decide (0 < ps.length)) l
theorem acE (ps:List Pz)(t:Bs)(n:Int):afk ps t n=iG ps [tz t n]:=rfl
theorem Sq {ps:List Pz}(h:0 < ps.length)(l:List Pz):iG ps l=ps ++ dI true l:=by unfold iG;rw [ak' h]
theorem eU (ps l:List Pz):(iG ps l).length=ps.length+l.length:=by unfold iG;rw [ak5,aj]
theorem vC (ps:List Pz){l:List Pz}(h:l ≠ [])(r:List Pz):iG ps (l ++ r)=iG ps l ++ r:=by
 unfold iG;rw [UC _ h,List.append_assoc]
theorem sD (ps:List Pz)(l r:List Pz)(h:l ≠ []):iG (iG ps l) r=iG ps (l ++ dI true r):=by
 have h1:0 < (iG ps l).length:=by
  rw [eU]
  have:0 < l.length:=List.length_pos_iff.2 h
  omega
 rw [Sq h1,vC _ h]
theorem vv (ps l:List Pz):nJ ps.length (iG ps l)=ps ++ dI false l:=TY _ _ _
section
variable {T:Tr} {B:Nat→List Pz}
theorem aco {i j:Nat}(a:B ((nd T i).kids.getD j 0).toNat ≠ []):eO T B i j ≠ []:=by
 unfold eO;simp only
 split
 ·exact a
 ·simp
end
theorem ZH {L:Nat→List Pz}{m:Nat}(a:L 0 ≠ [])(b:0 < m):gP L m ≠ []:=by
 cases m with
 | zero=>omega
 | succ m =>
  rw [gP];split
  ·exact a
  ·simp
theorem JG (ps:List Pz):iG ps []=ps:=by unfold iG;exact List.append_nil ps
theorem U8 (ps:List Pz)(L:Nat→List Pz):iG ps (gP L 1)=iG (iG ps (gP L 0)) (L 0):=by
 show iG ps (L 0)=iG (iG ps []) (L 0)
 rw [JG]
theorem aak (ps:List Pz)(L:Nat→List Pz){m:Nat}(h0:L 0 ≠ [])(a:0 < m):iG ps (gP L (m+1))=iG (iG ps (gP L m) ++ [tz [44] (-1)]) (L m):=by
 have e:gP L (m+1)=gP L m ++ tz [44] (-1) :: dI true (L m):=by rw [gP,if_neg (by omega)]
 rw [e,vC _ (ZH h0 a),Sq (ps:=iG ps (gP L m) ++ [tz [44] (-1)]) (by simp),List.append_assoc];rfl
end Mist
namespace Go.Proofs.YtflnfhhgamldhaaGreatDoor
open Go.RowKit Mist
attribute [local go_sem] ah aM aV au
theorem oN {k:IntKind}{a b:Int}(h:a=b):Ending.returned (.int k a)=.returned (.int k b):=by rw [h]
theorem bM {a b:Bool}(h:a=b):Ending.returned (.bool a)=.returned (.bool b):=by rw [h]
theorem WB (b:UInt8)(w:World) :
  Calls Tryz.prog 71 #[.int .u8 b.toNat] w fun e a=>e=.returned (.bool (jd b))∧w=a:=by
 go_in
 go_wp2
 all_goals
  go_ret
  refine⟨bM ?_,rfl⟩
  rw [akZ];simp [jd,UInt8.le_iff_toNat_le,← UInt8.toNat_inj] <;> omega
theorem ab4 (b:UInt8)(w:World) :
  Calls Tryz.prog 72 #[.int .u8 b.toNat] w fun e a=>e=.returned (.bool (vQ b))∧w=a:=by
 go_in
 go_wp2
 all_goals
  go_ret
  refine⟨bM ?_,rfl⟩
  rw [akZ];simp [vQ,← UInt8.toNat_inj] <;> omega
theorem Qj (b:UInt8)(w:World) :
  Calls Tryz.prog 74 #[.int .u8 b.toNat] w fun e a=>e=.returned (.bool (kK b))∧w=a:=by
 go_in
 go_wp2
 all_goals
  go_ret
  refine⟨bM ?_,rfl⟩
  rw [akZ];simp [kK,← UInt8.toNat_inj] <;> omega
theorem vG (b:UInt8)(w:World) :
  Calls Tryz.prog 75 #[.int .u8 b.toNat] w fun e a=>e=.returned (.bool (fZ b))∧w=a:=by
 go_in
 go_wp2
 all_goals
  go_ret
  refine⟨bM ?_,rfl⟩
  rw [akZ];simp [fZ,UInt8.le_iff_toNat_le] <;> omega
theorem zS (b:UInt8)(w:World) :
  Calls Tryz.prog 79 #[.int .u8 b.toNat] w fun e a=>e=.returned (.bool (dw b))∧w=a:=by
 go_in
 go_wp2
 all_goals
  go_ret
  refine⟨bM ?_,rfl⟩
  rw [akZ];simp [dw,UInt8.le_iff_toNat_le] <;> omega
theorem aaB (b:UInt8)(w:World) :
  Calls Tryz.prog 76 #[.int .u8 b.toNat] w fun e a=>e=.returned (.bool (eG b))∧w=a:=by
 go_in
 go_wp2
 all_goals
  go_ret
  refine⟨bM ?_,rfl⟩
  rw [akZ];simp [eG,fZ,dw,UInt8.le_iff_toNat_le] <;> omega
theorem qD (b:UInt8)(w:World) :
  Calls Tryz.prog 106 #[.int .u8 b.toNat] w fun e a=>e=.returned (.bool (fZ b))∧w=a:=by
 go_in
 go_wp2
 all_goals
  go_ret
  refine⟨bM ?_,rfl⟩
  rw [akZ];simp [fZ,UInt8.le_iff_toNat_le] <;> omega
theorem oH (b:UInt8)(w:World) :
  Calls Tryz.prog 107 #[.int .u8 b.toNat] w fun e a=>e=.returned (.bool (dw b))∧w=a:=by
 go_in
 go_wp2
 all_goals
  go_ret
  refine⟨bM ?_,rfl⟩
  rw [akZ];simp [dw,UInt8.le_iff_toNat_le] <;> omega
theorem qK (p:UInt8→Bool)(l:Bs)(n:Nat)(h:n≤l.length)(a:∀ c ∈ l.take n,p c=true)(b:n=l.length∨n < l.length∧p (gt l n)=false):bY p l=n:=by
 unfold bY;have h1:l=l.take n ++ l.drop n:=(List.take_append_drop n l).symm;rw [h1,List.takeWhile_append_of_pos a]
 have h2:(l.drop n).takeWhile p=[]:=by
  rcases b with rfl | ⟨e,d⟩
  ·simp
  ·rw [qZ l n e,List.takeWhile_cons,d];rfl
 rw [h2];simp;omega
theorem qo (p:UInt8→Bool)(l:Bs)(n:Nat)(h:n < l.length)(a:∀ c ∈ l.take n,p c=true)(d:p (gt l n)=true):∀ c ∈ l.take (n+1),p c=true:=by
 rw [ac7 l n h];simp only [List.mem_append,List.mem_singleton];rintro c (b | rfl)
 ·exact a c b
 ·exact d
theorem FL (l:Bs)(w:World)(j:l.length≤100000000) :
  Calls Tryz.prog 73 #[.string (aH l),.func (.func 76) #[] #[]] w fun e h=>e=.returned (.int .i64 (bY eG l))∧w=h:=by
 go_in
 go_wp2;go_loop [5] (fun i=>∃ n:Nat,n≤l.length∧i=.int .i64 n∧(∀ c ∈ l.take n,eG c=true)) (fun i=>l.length - (intOf i).toNat)
 case atStart=>exact⟨0,ak2 _,rfl,by simp⟩
 case round =>
  obtain⟨n,g,rfl,a⟩:=hrel;have d:=O a;clear a;by_cases b:n < l.length
  ·go_wp2_with (go_at_call 76;refine (aaB _ _).mono ?_;rintro e h ⟨rfl,rfl⟩)
   ·have f:eG (gt l n)=true:=by assumption
    exact⟨⟨n+1,by omega,by go_num,qo _ _ _ b d.o f⟩,by simp [intOf];omega⟩
   ·have f:eG (gt l n)=false:=by assumption
    go_ret;exact⟨oN (by rw [qK _ _ _ g d.o (.inr ⟨b,f⟩)]),rfl⟩
  ·go_wp2;go_ret;exact⟨oN (by rw [qK _ _ _ g d.o (.inl (by omega))]),rfl⟩
theorem NS (l:Bs)(w:World)(j:l.length≤100000000) :
  Calls Tryz.prog 73 #[.string (aH l),.func (.func 79) #[] #[]] w fun e h=>e=.returned (.int .i64 (bY dw l))∧w=h:=by
 go_in
 go_wp2;go_loop [5] (fun i=>∃ n:Nat,n≤l.length∧i=.int .i64 n∧(∀ c ∈ l.take n,dw c=true)) (fun i=>l.length - (intOf i).toNat)
 case atStart=>exact⟨0,ak2 _,rfl,by simp⟩
 case round =>
  obtain⟨n,g,rfl,a⟩:=hrel;have d:=O a;clear a;by_cases b:n < l.length
  ·go_wp2_with (go_at_call 79;refine (zS _ _).mono ?_;rintro e h ⟨rfl,rfl⟩)
   ·have f:dw (gt l n)=true:=by assumption
    exact⟨⟨n+1,by omega,by go_num,qo _ _ _ b d.o f⟩,by simp [intOf];omega⟩
   ·have f:dw (gt l n)=false:=by assumption
    go_ret;exact⟨oN (by rw [qK _ _ _ g d.o (.inr ⟨b,f⟩)]),rfl⟩
  ·go_wp2;go_ret;exact⟨oN (by rw [qK _ _ _ g d.o (.inl (by omega))]),rfl⟩
theorem J_ (l:Bs)(w:World)(j:l.length≤100000000) :
  Calls Tryz.prog 73 #[.string (aH l),.func (.func 74) #[] #[]] w fun e h=>e=.returned (.int .i64 (bY kK l))∧w=h:=by
 go_in
 go_wp2;go_loop [5] (fun i=>∃ n:Nat,n≤l.length∧i=.int .i64 n∧(∀ c ∈ l.take n,kK c=true)) (fun i=>l.length - (intOf i).toNat)
 case atStart=>exact⟨0,ak2 _,rfl,by simp⟩
 case round =>
  obtain⟨n,g,rfl,a⟩:=hrel;have d:=O a;clear a;by_cases b:n < l.length
  ·go_wp2_with (go_at_call 74;refine (Qj _ _).mono ?_;rintro e h ⟨rfl,rfl⟩)
   ·have f:kK (gt l n)=true:=by assumption
    exact⟨⟨n+1,by omega,by go_num,qo _ _ _ b d.o f⟩,by simp [intOf];omega⟩
   ·have f:kK (gt l n)=false:=by assumption
    go_ret;exact⟨oN (by rw [qK _ _ _ g d.o (.inr ⟨b,f⟩)]),rfl⟩
  ·go_wp2;go_ret;exact⟨oN (by rw [qK _ _ _ g d.o (.inl (by omega))]),rfl⟩
theorem oI {s:Bs}{a b:Nat}{x y:Int}(h:check s=(a,b))(c:x=a)(hy:y=b):Ending.returned (.tuple #[.int .i64 x,.int .i64 y])=.returned (.tuple #[.int .i64 (check s).1,.int .i64 (check s).2]):=by
 subst c;subst hy;rw [h]
theorem NG (p:UInt8→Bool)(l:Bs)(n:Nat)(h:l.length≤n)(a:∀ c ∈ l.take n,p c=true):∀ c ∈ l,p c=true:=by
 rwa [ak4 h] at a
theorem NK {b:UInt8}{k:Nat}(a:k < 256)(e:(b.toNat:Int)=k):b=UInt8.ofNat k:=by
 apply UInt8.toNat_inj.1
 rw [UInt8.toNat_ofNat'];omega
theorem NJ {b:UInt8}{k:Nat}(a:k < 256)(e:¬ (b.toNat:Int)=k):b ≠ UInt8.ofNat k:=by
 intro g;apply e
 rw [g,UInt8.toNat_ofNat'];omega
theorem aeC {b:UInt8}{k:Int}(h:((b.toNat:Int) == k)=true):(b.toNat:Int)=k:=beq_iff_eq.1 h
theorem aeD {b:UInt8}{k:Int}(h:((b.toNat:Int) == k)=false):¬ (b.toNat:Int)=k:=by simpa using h
theorem GN (l:Bs)(w:World)(h:l.length≤100000000) :
  Calls Tryz.prog 41 #[.string (aH l)] w fun e g=>e=.returned (.tuple #[.int .i64 (check l).1,.int .i64 (check l).2])∧w=g:=by
 by_cases h2:2000 < l.length
 ·go_in
  go_wp2;go_ret2
  exact⟨oI (DC l h2) rfl rfl,rfl⟩
 ·have h2:l.length≤2000:=Nat.le_of_not_lt h2;go_in
  go_wp2;go_loop [10] (fun i=>∃ n:Nat,n≤l.length∧i=.int .i64 n∧(∀ c ∈ l.take n,jd c=true)) (fun i=>l.length - (intOf i).toNat)
  case atStart=>exact⟨0,ak2 _,rfl,by simp⟩
  case round =>
   obtain⟨n,j,rfl,a⟩:=hrel;have d:=O a;clear a;by_cases b:n < l.length
   ·go_wp2_with (go_at_call 71;refine (WB _ _).mono ?_;rintro e g ⟨rfl,rfl⟩)
    ·have f:jd (gt l n)=false:=by simpa using (by assumption:(!jd (gt l n))=true)
     go_ret2
     exact⟨oI (zR l n h2 b d.o f) rfl rfl,rfl⟩
    ·have f:jd (gt l n)=true:=by simpa using (by assumption:(!jd (gt l n))=false)
     exact⟨⟨n+1,by omega,by go_num,qo _ _ _ b d.o f⟩,by simp [intOf];omega⟩
   ·go_wp2;go_ret2
    exact⟨oI (K7 l h2 (NG _ _ _ (by omega) d.o)) rfl rfl,rfl⟩
theorem Iw {b:UInt8}(h:(b.toNat:Int)=10∨(32≤(b.toNat:Int)∧(b.toNat:Int)≤126)):jd b=true:=by
 simp [jd,UInt8.le_iff_toNat_le,← UInt8.toNat_inj];omega
theorem NM {b:UInt8}(h:¬ (b.toNat:Int)=10)(g:(b.toNat:Int) < 32∨126 < (b.toNat:Int)):jd b=false:=by
 simp [jd,UInt8.le_iff_toNat_le,← UInt8.toNat_inj];omega
theorem Fa (l:Bs)(w:World)(k:l.length≤100000000) :
  Calls Tryz.prog 65 #[.string (aH l)] w fun e h=>e=.returned (.tuple #[.int .i64 (check l).1,.int .i64 (check l).2])∧w=h:=by
 by_cases h2:2000 < l.length
 ·go_in
  go_wp2;go_ret2
  exact⟨oI (DC l h2) rfl rfl,rfl⟩
 ·have h2:l.length≤2000:=Nat.le_of_not_lt h2;go_in
  go_wp2;go_loop [4] (fun i=>∃ n:Nat,n≤l.length∧i=.int .i64 n∧(∀ c ∈ l.take n,jd c=true)) (fun i=>l.length - (intOf i).toNat)
  case atStart=>exact⟨0,ak2 _,rfl,by simp⟩
  case round =>
   obtain⟨n,m,rfl,b⟩:=hrel;have d:=O b;clear b;by_cases a:n < l.length
   ·by_cases h10:((gt l n).toNat:Int)=10
    ·have g:(((gt l n).toNat:Int) != 10)=false:=by simp [h10]
     have j:=O h10;clear h10;go_wp2;exact⟨⟨n+1,by omega,by go_num,qo _ _ _ a d.o (Iw (.inl j.o))⟩,by simp [intOf];omega⟩
    ·have g:(((gt l n).toNat:Int) != 10)=true:=by simp [h10]
     by_cases h32:((gt l n).toNat:Int) < 32
     ·go_wp2;go_ret2
      exact⟨oI (zR l n h2 a d.o (NM h10 (.inl h32))) rfl rfl,rfl⟩
     ·by_cases f:126 < ((gt l n).toNat:Int)
      ·go_wp2;go_ret2
       exact⟨oI (zR l n h2 a d.o (NM h10 (.inr f))) rfl rfl,rfl⟩
      ·go_wp2;exact⟨⟨n+1,by omega,by go_num,qo _ _ _ a d.o (Iw (.inr (by omega)))⟩,by simp [intOf];omega⟩
   ·go_wp2;go_ret2
    exact⟨oI (K7 l h2 (NG _ _ _ (by omega) d.o)) rfl rfl,rfl⟩
theorem NA (l:Bs)(w:World)(m:l.length≤100000000) :
  Calls Tryz.prog 42 #[.string (aH l)] w fun e g=>e=.returned (.int .i64 (skip l))∧w=g:=by
 go_in
 go_wp2;go_loop [3] (fun i=>∃ n:Nat,n≤l.length∧i=.int .i64 n∧skip l=n+skip (l.drop n)) (fun i=>l.length - (intOf i).toNat)
 case atStart=>exact⟨0,ak2 _,rfl,by simp⟩
 case round =>
  obtain⟨n,q,rfl,b⟩:=hrel;have c:=O b;clear b;by_cases a:n < l.length
  ·have j:bY kK (l.drop n)≤l.length - n:=by have:=qL kK (l.drop n);simpa using this
   go_wp2_with (first
    | (go_at_call 72;refine (ab4 _ _).mono ?_;rintro e g ⟨rfl,rfl⟩)
    | (go_at_call 73;refine (J_ (l.drop n) _ (by simp;omega)).mono ?_;rintro e g ⟨rfl,rfl⟩))
   ·have f:vQ (gt l n)=true:=by assumption
    exact⟨⟨n+1,by omega,by go_num,by have:=c.o;have:=FB l n a f;omega⟩,by simp [intOf];omega⟩
   ·have d:gt l n=35:=NK (k:=35) (by omega) (aeC (by assumption));have h:=Gi l n a d;exact⟨⟨n+bY kK (l.drop n),by omega,by go_num,by have:=c.o;have:=WA l n a d;omega⟩,by simp [intOf];omega⟩
   ·have f:vQ (gt l n)=false:=by assumption
    have d:gt l n ≠ 35:=NJ (k:=35) (by omega) (aeD (by assumption));go_ret;exact⟨oN (by have:=c.o;have:=Im l n a f d;omega),rfl⟩
  ·go_wp2;go_ret;exact⟨oN (by have:=c.o;have:=NC l n (by omega);omega),rfl⟩
theorem GY (l:Bs)(at_:Nat)(w:World)(Q:l.length≤100000000)(I:at_≤l.length) :
  Calls Tryz.prog 66 #[.string (aH l),.int .i64 at_] w fun e M=>e=.returned (.int .i64 ((at_:Int)+skip (l.drop at_)))∧w=M:=by
 go_in
 go_wp2;go_loop [1] (fun i=>∃ n:Nat,n≤l.length∧i=.int .i64 n∧at_+skip (l.drop at_)=n+skip (l.drop n)) (fun i=>l.length - (intOf i).toNat)
 case atStart=>exact⟨at_,I,rfl,rfl⟩
 case round =>
  obtain⟨n,J,rfl,x⟩:=hrel;have j:=O x;clear x;by_cases d:n < l.length
  ·by_cases h32:((gt l n).toNat:Int)=32
   ·have f:vQ (gt l n)=true:=by rw [NK (k:=32) (by omega) h32];rfl
    have q:=O f;clear f;go_wp2;exact⟨⟨n+1,by omega,by go_num,by have:=j.o;have:=FB l n d q.o;omega⟩,by simp [intOf];omega⟩
   by_cases h10:((gt l n).toNat:Int)=10
   ·have f:vQ (gt l n)=true:=by rw [NK (k:=10) (by omega) h10];rfl
    have q:=O f;clear f;go_wp2;exact⟨⟨n+1,by omega,by go_num,by have:=j.o;have:=FB l n d q.o;omega⟩,by simp [intOf];omega⟩
   have f:vQ (gt l n)=false:=by
    have a:=NJ (k:=32) (by omega) h32;have b:=NJ (k:=10) (by omega) h10;simp [vQ];exact⟨a,b⟩
   have q:=O f;clear f;have H:(((gt l n).toNat:Int) == 32)=false:=by simpa using h32
   have P:(((gt l n).toNat:Int) == 10)=false:=by simpa using h10
   by_cases h35:((gt l n).toNat:Int)=35
   ·have r:gt l n=35:=NK (k:=35) (by omega) h35;have y:=O r;clear r;have D:(((gt l n).toNat:Int) != 35)=false:=by simp [h35]
    have F:=O h35;clear h35;go_wp2;go_loop [1] (fun i=>∃ m:Nat,n≤m∧m≤l.length∧i=.int .i64 m∧(m=n→gt l n=35)∧n+skip (l.drop n)=m+jX true (l.drop m)) (fun i=>l.length - (intOf i).toNat)
    case atStart=>exact⟨n,ak0 _,J,rfl,fun _=>y.o,by rw [Rb l n d y.o]⟩
    case round =>
     obtain⟨m,L,E,rfl,u,t⟩:=hrel;have A:=O t;clear t;have G:=O u;clear u;by_cases v:m < l.length
     ·by_cases c:((gt l m).toNat:Int)=10
      ·have g:gt l m=10:=NK (k:=10) (by omega) c
       have K:n < m:=by
        rcases Nat.lt_or_ge n m with h | h
        ·exact h
        ·have e:m=n:=by omega
         have:=G.o e
         rw [e] at g;rw [g] at this;exact absurd this (by decide)
       have D:(((gt l m).toNat:Int) != 10)=false:=by simp [c]
       have C:=O g;clear g;have N:=O c;clear c;go_wp2;exact⟨⟨m,E,rfl,by have:=j.o;have:=A.o;have:=Ra l m v C.o;omega⟩,by simp [intOf];omega⟩
      ·have g:gt l m ≠ 10:=NJ (k:=10) (by omega) c;have D:(((gt l m).toNat:Int) != 10)=true:=by simp [c]
       have C:=O g;clear g;go_wp2;exact⟨⟨m+1,by omega,by omega,by go_num,fun h=>by omega,by have:=A.o;have:=Rc l m v C.o;omega⟩,by simp [intOf];omega⟩
     ·go_wp2;exact⟨⟨m,E,rfl,by have:=j.o;have:=A.o;have:=Wz l m (by omega);omega⟩,by simp [intOf];omega⟩
   ·have D:(((gt l n).toNat:Int) != 35)=true:=by simp [h35]
    have r:gt l n ≠ 35:=NJ (k:=35) (by omega) h35;have y:=O r;clear r;go_wp2;go_ret;exact⟨oN (by have:=j.o;have:=Im l n d q.o y.o;omega),rfl⟩
  ·go_wp2;go_ret;exact⟨oN (by have:=j.o;have:=NC l n (by omega);omega),rfl⟩
theorem Bt (l:Bs):iP l=(decide (l.length≤4) && (l.length == 1 || ((gt l 0).toNat:Int) != 48)):=by
 have:(gt l 0 != 48)=(((gt l 0).toNat:Int) != 48):=by
  rw [akZ];simp [← UInt8.toNat_inj]
  omega
 rw [iP,this]
theorem Jt (l:Bs)(w:World)(d:l.length≤100000000)(h0:0 < l.length) :
  Calls Tryz.prog 80 #[.string (aH l)] w fun e c=>e=.returned (.bool (iP l))∧w=c:=by
 have a:=O (Bt l);by_cases h4:l.length≤4
 ·by_cases h1:((l.length:Int) == 1)=true
  ·go_in
   go_wp2;go_ret
   refine⟨bM ?_,rfl⟩
   rw [a.o];simp at h1
   simp;omega
  ·have b:((l.length:Int) == 1)=false:=by simpa using h1
   clear h1;go_in
   go_wp2;go_ret
   refine⟨bM ?_,rfl⟩
   rw [a.o];simp at b
   simp [h4];omega
 ·go_in
  go_wp2;go_ret
  refine⟨bM ?_,rfl⟩
  rw [a.o];simp;omega
def Env (w : World) : Prop := ∃ B, B ≤ w.heap.size ∧ Lib.TabBelow Tryz.prog B w "strings.asciiSpace" IntKind.u8 Lib.asciiSpaceTab
theorem Env.tab {w : World} (h : Env w) : Lib.TabIs Tryz.prog w "strings.asciiSpace" IntKind.u8 Lib.asciiSpaceTab := by
 obtain⟨B,_,h⟩:=h;exact h.here
theorem Env.below {w e:World}(h:Env w)(d:Below w.heap.size w e):Env e:=by
 obtain⟨B,c,h⟩:=h;exact⟨B,Nat.le_trans c d.size,fun b a=>h b ((d.mono c).trans a)⟩
theorem Env.alloc {w:World}(h:Env w)(o:Obj):Env (w.alloc o):=h.below ((Below.refl _ _).alloc (ak0 _) o)
theorem Env.drew {w:World}(h:Env w):Env w.drew:=h.below ((Below.refl _ _).drew)
def jM (l:List Bs):Array Value:=(l.map fun x=>Value.string (aH x)).toArray
theorem FD (l:List Bs)(i:Nat)(h:i < l.length):(jM l)[i]? = some (.string (aH (sg l i))):=by
 simp [jM,sg,h]
theorem Dv (l:List UInt8)(h:l.all (fun b=>decide (b.toNat < 128))=true):∀ (j:Nat) (b:UInt8),l[j]? = some b→b.toNat < 128:=by
 intro j b a
 have:=ak8.1 h b (ak3 a)
 simpa using this
theorem Ce:Lib.fields [97,110,100,32,97,115,107,32,98,108,97,109,101,32,98,111,111,108,32,98,111,117,110,100,115,32,99,104,111,111,115,101,32,99,111,117,110,116,32,101,108,115,101,32,102,97,108,115,101,32,102,117,110,32,105,102,32,105,110,32,105,110,116,32,108,101,116,32,108,111,111,107,32,109,97,121,32,109,117,115,116,32,110,111,116,32,111,98,115,101,114,118,101,32,111,114,32,114,101,116,114,97,99,116,32,116,104,101,110,32,116,114,117,101,32,116,121,112,101,32,117,112,116,111,32,118,97,108,117,101,115,32,119,104,121]=keywords:=by decide +kernel
theorem J5:Lib.fields [61,61,32,33,61,32,60,61,32,62,61,32,46,46,32,43,32,45,32,42,32,47,32,37,32,60,32,62,32,61,32,40,32,41,32,91,32,93,32,123,32,125,32,44,32,58,32,59,32,46]=signs:=by decide +kernel
theorem yG (w:World)(a:Env w) :
  Calls Tryz.prog 78 #[] w fun e b=>e=.returned (.slice (some ⟨w.heap.size,0,none⟩) 27 27)∧w.alloc (.cells (jM keywords) 9)=b:=by
 go_in
 go_wp2_with (go_at_call 103;refine (Tryz.strings_Fields_laid _ _ ?c1 ?c2 a.tab).mono ?_)
 case c1=>decide +kernel
 case c2=>exact Dv _ (by decide +kernel)
 ·go_ret;simp only [Ce];exact⟨rfl,rfl⟩
theorem Ww (w:World)(a:Env w) :
  Calls Tryz.prog 81 #[] w fun e b=>e=.returned (.slice (some ⟨w.heap.size,0,none⟩) 23 23)∧w.alloc (.cells (jM signs) 9)=b:=by
 go_in
 go_wp2_with (go_at_call 103;refine (Tryz.strings_Fields_laid _ _ ?c1 ?c2 a.tab).mono ?_)
 case c1=>decide +kernel
 case c2=>exact Dv _ (by decide +kernel)
 ·go_ret;simp only [J5];exact⟨rfl,rfl⟩
theorem Gg (w:World) :
  Calls Tryz.prog 109 #[] w fun e a=>e=.returned (.slice (some ⟨w.heap.size,0,none⟩) 27 27)∧w.alloc (.cells (jM keywords) 9)=a:=by
 go_in
 go_wp2;go_ret;exact⟨rfl,rfl⟩
theorem QY (w:World) :
  Calls Tryz.prog 110 #[] w fun e a=>e=.returned (.slice (some ⟨w.heap.size,0,none⟩) 23 23)∧w.alloc (.cells (jM signs) 9)=a:=by
 go_in
 go_wp2;go_ret;exact⟨rfl,rfl⟩
theorem Cy {w:World}{b:Nat}{xs:List Bs}{T:TypeId}{fr:Nat × Nat}(a:w.heap[b]? = some (.cells (jM xs) T fr))(j:Nat)(h:j < xs.length) :
  w.cell? ⟨b,j,none⟩=some (.string (aH (sg xs j))):=by
 rw [Lib.cell_of_heap a];exact FD xs j h
theorem ae7 (xs:List Bs)(x:Bs)(b c T:Nat)(fr:Nat × Nat)(w:World)(h:w.heap[b]? = some (.cells (jM xs) T fr))(m:xs.length≤1000) :
  Calls Tryz.prog 108 #[.slice (some ⟨b,0,none⟩) xs.length c,.string (aH x)] w fun e k=>e=.returned (.bool (hasB xs x))∧w=k:=by
 have j:=O h;clear h;go_in
 go_wp2;go_loop [5] (fun i=>∃ n:Nat,n≤xs.length∧i=.int .i64 n∧hasB (xs.take n) x=false) (fun i=>xs.length - (intOf i).toNat)
 case atStart=>exact⟨0,ak2 _,rfl,rfl⟩
 case round =>
  obtain⟨n,q,rfl,a⟩:=hrel;have g:=O a;clear a;by_cases d:n < xs.length
  ·have l:=Cy j.o n d;go_wp2
   ·have f:(sg xs n == x)=true:=by assumption
    go_ret;exact⟨bM (ab_ xs x n d (beq_iff_eq.1 f)).symm,rfl⟩
   ·have f:(sg xs n == x)=false:=by assumption
    exact⟨⟨n+1,by omega,by go_num,by rw [Um xs x n d,g.o,Bool.false_or,BEq.comm,f]⟩,by simp [intOf];omega⟩
  ·go_wp2;go_ret;exact⟨bM (by have:=g.o;rw [ak4 (by omega)] at this;exact this.symm),rfl⟩
theorem ach (xs:List Bs)(x:Bs)(b c n T:Nat)(fr:Nat × Nat)(w:World)(a:w.heap[b]? = some (.cells (jM xs) T fr))(d:xs.length≤1000)(f:n=xs.length) :
  Calls Tryz.prog 108 #[.slice (some ⟨b,0,none⟩) n c,.string (aH x)] w fun e g=>e=.returned (.bool (hasB xs x))∧w=g:=by
 subst f;exact ae7 xs x b c T fr w a d
theorem sQ (xs:List Bs)(x:Bs)(b c n T:Nat)(fr:Nat × Nat)(w:World)(g:w.heap[b]? = some (.cells (jM xs) T fr))(m:xs.length≤1000)(k:n=xs.length) :
  Calls Tryz.prog 77 #[.slice (some ⟨b,0,none⟩) n c,.string (aH x)] w fun e f=>e=.returned (.bool (hasB xs x))∧w=f:=by
 subst k;refine (Tryz.slices_Contains_string b 0 xs.length c (xs.map aH) (aH x) w (by simp) (by omega) ?_).mono ?_
 ·intro j i;have d:j < xs.length:=by simpa using i
  rw [Nat.zero_add,Cy g j d];simp [d,sg]
 ·rintro e f ⟨rfl,rfl⟩
  refine⟨bM ?_,rfl⟩
  rw [akZ,Lib.containsS_iff];simp only [hasB,List.contains_iff_mem];rw [ak4 (by simp),List.mem_map];constructor
  ·rintro⟨a,l,e⟩
   rwa [← acD e]
  ·exact fun h=>⟨x,h,rfl⟩
theorem F5 (s p:Bs)(w:World) :
  Calls Tryz.prog 82 #[.string (aH s),.string (aH p)] w fun e a=>e=.returned (.bool (sG p s))∧w=a :=
 (Tryz.strings_HasPrefix (aH s) (aH p) w).mono fun _ _ h=>⟨h.1,h.2.symm⟩
theorem vE {k:Nat}{t:Bs}{l:Bs}{a:Int}{b:Bs}(h:first l=(k,t))(c:a=k)(d:b=t) :
  Ending.returned (.tuple #[.int .u8 a,.string (aH b)])=.returned (.tuple #[.int .u8 (first l).1,.string (aH (first l).2)]):=by
 subst c;subst d;rw [h]
theorem vg (l:Bs)(w:World)(G:Env w)(D:l.length≤100000000) :
  Calls Tryz.prog 43 #[.string (aH l)] w fun e a=>e=.returned (.tuple #[.int .u8 (first l).1,.string (aH (first l).2)])∧Below w.heap.size w a:=by
 have y:=O G;clear G;by_cases h00:l.length=0
 ·have C:l.isEmpty=true:=by cases l <;> simp_all
  have f:=O h00;clear h00;go_in
  go_wp2;go_ret2
  exact⟨vE (b:=[]) (oU l f.o) rfl rfl,Below.refl _ _⟩
 have C:l.isEmpty=false:=by cases l <;> simp_all
 have h0:0 < l.length:=by omega
 have f:=O h00;clear h00;by_cases g:fZ (gt l 0)=true
 ·have K:=qL eG l;have d:=heap_alloc_new w (.cells (jM keywords) 9);have u:=O d;clear d;have c:Below w.heap.size w (w.alloc (.cells (jM keywords) 9)):=(Below.refl _ _).alloc (ak0 _) _;have m:=O c;clear c;by_cases q:hasB keywords (l.take (bY eG l))=true
  ·go_in
   go_wp2_with (first
    | (go_at_call 75;refine (vG _ _).mono ?_;rintro e a ⟨rfl,rfl⟩)
    | (go_at_call 73;refine (FL l _ D).mono ?_;rintro e a ⟨rfl,rfl⟩)
    | (go_at_call 78;refine (yG _ y.o).mono ?_;rintro e a ⟨rfl,rfl⟩)
    | (go_at_call 77;refine (sQ keywords _ _ _ _ _ _ _ u.o (by decide) rfl).mono ?_;rintro e a ⟨rfl,rfl⟩))
   go_ret2
   exact⟨vE (qx l f.o g q) rfl rfl,m.o⟩
  ·have I:hasB keywords (l.take (bY eG l))=false:=by simpa using q
   by_cases h:bY eG l≤12
   case' pos=>have k:=O (lS l f.o g q h)
   case' neg=>have k:=O (nZ l f.o g q h)
   all_goals
    clear q;go_in
    go_wp2_with (first
     | (go_at_call 75;refine (vG _ _).mono ?_;rintro e a ⟨rfl,rfl⟩)
     | (go_at_call 73;refine (FL l _ D).mono ?_;rintro e a ⟨rfl,rfl⟩)
     | (go_at_call 78;refine (yG _ y.o).mono ?_;rintro e a ⟨rfl,rfl⟩)
     | (go_at_call 77;refine (sQ keywords _ _ _ _ _ _ _ u.o (by decide) rfl).mono ?_;rintro e a ⟨rfl,rfl⟩))
    go_ret2
    exact⟨vE (by first | exact k.o) rfl rfl,m.o⟩
 have J:fZ (gt l 0)=false:=by simpa using g
 by_cases hd:dw (gt l 0)=true
 ·have K:=qL dw l
  have v:0 < bY dw l:=by
   unfold bY
   cases l with
   | nil=>simp at h0
   | cons b r=>have A:dw b=true:=hd;rw [List.takeWhile_cons_of_pos A];simp
  by_cases h:iP (l.take (bY dw l))=true
  case' pos=>have k:=O (mg l f.o g hd h)
  case' neg=>have k:=O (lT l f.o g hd h);have h:iP (l.take (bY dw l))=false:=by simpa using h
  all_goals
   clear g;go_in
   go_wp2_with (first
    | (go_at_call 75;refine (vG _ _).mono ?_;rintro e a ⟨rfl,rfl⟩)
    | (go_at_call 79;refine (zS _ _).mono ?_;rintro e a ⟨rfl,rfl⟩)
    | (go_at_call 73;refine (NS l _ D).mono ?_;rintro e a ⟨rfl,rfl⟩)
    | (go_at_call 80;refine (Jt (l.take (bY dw l)) _ (by simp;omega) (by simp;omega)).mono ?_;rintro e a ⟨rfl,rfl⟩))
   go_ret2
   exact⟨vE (by exact k.o) rfl rfl,Below.refl _ _⟩
 ·have H:dw (gt l 0)=false:=by simpa using hd
  have d:=heap_alloc_new w (.cells (jM signs) 9);have u:=O d;clear d;have c:Below w.heap.size w (w.alloc (.cells (jM signs) 9)):=(Below.refl _ _).alloc (ak0 _) _;have m:=O c;clear c;have F:=O g;clear g;have E:=O hd;clear hd;go_in
  go_wp2_with (first
   | (go_at_call 75;refine (vG _ _).mono ?_;rintro e a ⟨rfl,rfl⟩)
   | (go_at_call 79;refine (zS _ _).mono ?_;rintro e a ⟨rfl,rfl⟩)
   | (go_at_call 81;refine (Ww _ y.o).mono ?_;rintro e a ⟨rfl,rfl⟩))
  go_loop [42] (fun i=>∃ n:Nat,n≤23∧i=.int .i64 n∧wM l n) (fun i=>23 - (intOf i).toNat)
  case atStart=>exact⟨0,ak2 _,rfl,BD _⟩
  case round =>
   obtain⟨n,h,rfl,t⟩:=hrel;have x:=O t;clear t;by_cases j:n < 23
   ·have L:=Cy u.o n (show n < signs.length from j);go_wp2_with (go_at_call 82;refine (F5 _ _ _).mono ?_;rintro e a ⟨rfl,rfl⟩)
    ·have v:sG (sg signs n) l=true:=by assumption
     go_ret2
     exact⟨vE (oh l f.o F.o E.o _ (Fu l n j x.o v)) rfl rfl,m.o⟩
    ·have v:sG (sg signs n) l=false:=by assumption
     exact⟨⟨n+1,by omega,by go_num,uU l n j x.o v⟩,by simp [intOf];omega⟩
   ·go_wp2;go_ret2
    have e:n=23:=by omega
    exact⟨vE (b:=[]) (n_ l f.o F.o E.o (BL l (e ▸ x.o))) rfl rfl,m.o⟩
def Rj (k:Nat)(t:Bs)(a:Int):Value:=.agg #[.int .u8 k,.string (aH t),.int .i64 a]
def o_ (l:Bs)(a:Nat):Value:=if (first l).1=0 then Rj 0 [] 0 else Rj (first l).1 (first l).2 a
theorem uK (l:Bs)(a:Nat):gt (l.drop a) 0=gt l a:=by rw [Cq];rfl
theorem NR (p:UInt8→Bool)(l:Bs)(a k:Nat)(h1:a≤k)(h2:k≤l.length)(b:∀ c ∈ (l.drop a).take (k - a),p c=true)(d:k=l.length∨k < l.length∧p (gt l k)=false) :
  bY p (l.drop a)=k - a:=by
 refine qK p _ _ (by simp;omega) b ?_;rcases d with h | ⟨h,e⟩
 ·exact .inl (by simp;omega)
 ·exact .inr ⟨by simp;omega,by rw [Cq,show a+(k - a)=k by omega];exact e⟩
theorem Yw (p:UInt8→Bool)(l:Bs)(a k:Nat)(h1:a≤k)(h2:k < l.length)(b:∀ c ∈ (l.drop a).take (k - a),p c=true)(d:p (gt l k)=true):∀ c ∈ (l.drop a).take (k+1 - a),p c=true:=by
 rw [show k+1 - a=(k - a)+1 by omega];refine qo p _ _ (by simp;omega) b ?_;rw [Cq,show a+(k - a)=k by omega];exact d
theorem ME (b:UInt8):eG b=(fZ b || dw b):=rfl
theorem JZ (l:Bs)(a:Nat)(w:World)(P:l.length≤100000000)(J:a < l.length)(L:fZ (gt l a)=true) :
  Calls Tryz.prog 67 #[.string (aH l),.int .i64 a] w fun e j=>e=.returned (o_ (l.drop a) a)∧Below w.heap.size w j:=by
 have x:=O (show ¬ (l.drop a).length=0 by simp;omega);have y:=O (show fZ (gt (l.drop a) 0)=true by rw [uK];exact L);go_in
 go_wp2_with (first
  | (go_at_call 106;refine (qD _ _).mono ?_;rintro e j ⟨rfl,rfl⟩))
 go_loop [5] (fun i=>∃ k:Nat,a≤k∧k≤l.length∧i=.int .i64 k∧∀ c ∈ (l.drop a).take (k - a),eG c=true) (fun i=>l.length - (intOf i).toNat)
 case atStart=>exact⟨a,ak0 _,by omega,rfl,by simp⟩
 case round =>
  obtain⟨k,n,D,rfl,d⟩:=hrel;have F:=O d;clear d;by_cases b:k < l.length∧eG (gt l k)=true
  ·obtain⟨b,u⟩:=b;have H:=O u;by_cases h1:fZ (gt l k)=true
   case' neg=>have A:fZ (gt l k)=false:=by simpa using h1
   case' neg=>have h2:dw (gt l k)=true:=by rw [ME,A] at u;simpa using u
   all_goals
    clear u
    go_wp2_with (first
     | (go_at_call 106;refine (qD _ _).mono ?_;rintro e j ⟨rfl,rfl⟩)
     | (go_at_call 107;refine (oH _ _).mono ?_;rintro e j ⟨rfl,rfl⟩))
    exact⟨⟨k+1,by omega,by omega,by go_num,Yw _ _ _ _ n b F.o H.o⟩,by simp [intOf];omega⟩
  ·have E:bY eG (l.drop a)=k - a:=by
    refine NR _ _ _ _ n D F.o ?_;rcases Nat.lt_or_ge k l.length with h | h
    ·exact .inr ⟨h,by simpa using fun g=>b ⟨h,g⟩⟩
    ·exact .inl (by omega)
   have K:(k < l.length∧fZ (gt l k)=false∧dw (gt l k)=false)∨¬ k < l.length:=by
    rcases Nat.lt_or_ge k l.length with h | h
    ·have:eG (gt l k)=false:=by simpa using fun g=>b ⟨h,g⟩
     exact .inl ⟨h,by simpa [ME] using this⟩
    ·exact .inr (by omega)
   have C:(hasB keywords ((l.take k).drop a)=true∧first (l.drop a)=(3,(l.take k).drop a)) ∨
     (hasB keywords ((l.take k).drop a)=false∧k - a≤12∧first (l.drop a)=(1,(l.take k).drop a)) ∨
     (hasB keywords ((l.take k).drop a)=false∧12 < k - a∧first (l.drop a)=(0,[])):=by
    have e:(l.take k).drop a=(l.drop a).take (bY eG (l.drop a)):=by rw [E,List.drop_take]
    rw [e,← E];by_cases f:hasB keywords ((l.drop a).take (bY eG (l.drop a)))=true
    ·exact .inl ⟨f,qx _ x.o y.o f⟩
    ·have q:hasB keywords ((l.drop a).take (bY eG (l.drop a)))=false:=by simpa using f
     by_cases r:bY eG (l.drop a)≤12
     ·exact .inr (.inl ⟨q,r,lS _ x.o y.o f r⟩)
     ·exact .inr (.inr ⟨q,by omega,nZ _ x.o y.o f r⟩)
   clear b E;rcases K with ⟨b,M,N⟩ | b <;> rcases C with ⟨f,t⟩ | ⟨f,r,t⟩ | ⟨f,r,t⟩
   all_goals
    have G:=O t;clear t;have m:=heap_alloc_new (w.alloc (Obj.cells #[Value.int IntKind.u8 0,Value.string { data:=#[] },Value.int IntKind.i64 0] 80)) (.cells (jM keywords) 9);rw [World.size_alloc] at m
    have I:=O m;clear m
    go_wp2_with (first
     | (go_at_call 106;refine (qD _ _).mono ?_;rintro e j ⟨rfl,rfl⟩)
     | (go_at_call 107;refine (oH _ _).mono ?_;rintro e j ⟨rfl,rfl⟩)
     | (go_at_call 109;refine (Gg _).mono ?_;rintro e j ⟨rfl,rfl⟩)
     | (go_at_call 108;refine (ach keywords _ _ _ _ _ _ _ I.o (by decide) rfl).mono ?_;rintro e j ⟨rfl,rfl⟩))
    refine bodyPost_ret (v:=o_ (l.drop a) a) ?_ rfl ⟨rfl,((Below.refl _ _).alloc (ak0 _) _).alloc (by simp) _⟩;simp only [o_,G.o];simp [results,Tryz.results67,go_sem]
    rfl
theorem JY (l:Bs)(a:Nat)(w:World)(N:l.length≤100000000)(I:a < l.length)(L:fZ (gt l a)=false)(hd:dw (gt l a)=true) :
  Calls Tryz.prog 67 #[.string (aH l),.int .i64 a] w fun e r=>e=.returned (o_ (l.drop a) a)∧Below w.heap.size w r:=by
 have t:=O (show ¬ (l.drop a).length=0 by simp;omega);have x:=O (show ¬ fZ (gt (l.drop a) 0)=true by rw [uK,L];decide);have u:=O (show dw (gt (l.drop a) 0)=true by rw [uK];exact hd);go_in
 go_wp2_with (first
  | (go_at_call 106;refine (qD _ _).mono ?_;rintro e r ⟨rfl,rfl⟩)
  | (go_at_call 107;refine (oH _ _).mono ?_;rintro e r ⟨rfl,rfl⟩))
 go_loop [5] (fun i=>∃ k:Nat,a≤k∧k≤l.length∧i=.int .i64 k∧∀ c ∈ (l.drop a).take (k - a),dw c=true) (fun i=>l.length - (intOf i).toNat)
 case atStart=>exact⟨a,ak0 _,by omega,rfl,by simp⟩
 case round =>
  obtain⟨k,n,D,rfl,f⟩:=hrel;have F:=O f;clear f;by_cases b:k < l.length∧dw (gt l k)=true
  ·obtain⟨b,K⟩:=b;go_wp2_with (go_at_call 107;refine (oH _ _).mono ?_;rintro e r ⟨rfl,rfl⟩)
   exact⟨⟨k+1,by omega,by omega,by go_num,Yw _ _ _ _ n b F.o K⟩,by simp [intOf];omega⟩
  ·have E:bY dw (l.drop a)=k - a:=by
    refine NR _ _ _ _ n D F.o ?_;rcases Nat.lt_or_ge k l.length with h | h
    ·exact .inr ⟨h,by simpa using fun g=>b ⟨h,g⟩⟩
    ·exact .inl (by omega)
   have C:a < k:=by
    rcases Nat.lt_or_ge a k with h | h
    ·exact h
    ·have e:k=a:=by omega
     exact absurd ⟨by omega,by rw [e];exact hd⟩ b
   have J:(k < l.length∧dw (gt l k)=false)∨¬ k < l.length:=by
    rcases Nat.lt_or_ge k l.length with h | h
    ·exact .inl ⟨h,by simpa using fun g=>b ⟨h,g⟩⟩
    ·exact .inr (by omega)
   have m:gt ((l.take k).drop a) 0=gt l a:=by rw [Cq,Nat.add_zero,ab7 _ _ _ C]
   have A:(((k - a:Nat):Int) == 1)=true∧first (l.drop a)=(2,(l.take k).drop a) ∨
     ((((k - a:Nat):Int) == 1)=false∧k - a≤4∧(((gt l a).toNat:Int) != 48)=true∧first (l.drop a)=(2,(l.take k).drop a)) ∨
     ((((k - a:Nat):Int) == 1)=false∧k - a≤4∧(((gt l a).toNat:Int) != 48)=false∧first (l.drop a)=(0,[])) ∨
     ((((k - a:Nat):Int) == 1)=false∧4 < k - a∧first (l.drop a)=(0,[])):=by
    have e:(l.take k).drop a=(l.drop a).take (bY dw (l.drop a)):=by rw [E,List.drop_take]
    have en:=Bt ((l.take k).drop a);rw [m,e] at en
    have H:((l.drop a).take (bY dw (l.drop a))).length=k - a:=by rw [E];simp;omega
    rw [H] at en
    rw [e];by_cases h1:k - a=1
    ·refine .inl ⟨by simp [h1],mg _ t.o x.o u.o (by rw [en];simp [h1])⟩
    ·have j:(((k - a:Nat):Int) == 1)=false:=by simp;omega
     by_cases h4:k - a≤4
     ·by_cases h48:(((gt l a).toNat:Int) != 48)=true
      ·exact .inr (.inl ⟨j,h4,h48,mg _ t.o x.o u.o (by rw [en,h48];simp [h4])⟩)
      ·have d:(((gt l a).toNat:Int) != 48)=false:=by simpa using h48
       exact .inr (.inr (.inl ⟨j,h4,d,lT _ t.o x.o u.o (by rw [en,d];simp [h1])⟩))
     ·exact .inr (.inr (.inr ⟨j,by omega,lT _ t.o x.o u.o (by rw [en];simp;omega)⟩))
   have y:=O m;clear m;clear b E;rcases J with ⟨b,M⟩ | b <;> rcases A with ⟨h1,q⟩ | ⟨h1,h4,h48,q⟩ | ⟨h1,h4,h48,q⟩ | ⟨h1,h4,q⟩
   all_goals
    have G:=O q;clear q;have P:=y.o
    go_wp2_with (first
     | (go_at_call 107;refine (oH _ _).mono ?_;rintro e r ⟨rfl,rfl⟩))
    refine bodyPost_ret (v:=o_ (l.drop a) a) ?_ rfl ⟨rfl,((Below.refl _ _).alloc (ak0 _) _)⟩;simp only [o_,G.o];simp [results,Tryz.results67,go_sem]
    rfl
theorem QM (l:Bs)(a:Nat)(w:World)(c:l.length≤100000000)(d:a=l.length) :
  Calls Tryz.prog 67 #[.string (aH l),.int .i64 a] w fun e g=>e=.returned (o_ (l.drop a) a)∧Below w.heap.size w g:=by
 have f:l.length≤a:=by omega
 have b:=O (oU (l.drop a) (by simp;omega));clear d;go_in
 go_wp2;refine bodyPost_ret (v:=o_ (l.drop a) a) ?_ rfl ⟨rfl,((Below.refl _ _).alloc (ak0 _) _)⟩;simp only [o_,b.o];simp [results,Tryz.results67,go_sem]
 rfl
theorem gJ {B:Nat}{a w:World}(h:Below B a w)(n:Nat):Below B a (w.drewN n):=h.trans ⟨rfl,rfl,rfl,ak0 _,fun _ _=>rfl⟩
theorem aaG (g l:Bs)(a:Nat):sG g (l.drop a)=(decide (a+g.length≤max a l.length) && ((l.take (a+g.length)).drop a == g)):=by
 rw [akZ,sG,List.isPrefixOf_iff_prefix,List.prefix_iff_eq_take,List.drop_take];simp only [Nat.add_sub_cancel_left,ak9,decide_eq_true_eq,beq_iff_eq];constructor
 ·intro h
  refine⟨?_,h.symm⟩
  have:=congrArg List.length h
  simp at this
  omega
 ·exact fun h=>h.2.symm
theorem Nc (l:Bs)(a:Nat)(w:World)(J:l.length≤100000000)(F:a < l.length)(G:fZ (gt l a)=false)(hd:dw (gt l a)=false) :
  Calls Tryz.prog 67 #[.string (aH l),.int .i64 a] w fun e r=>e=.returned (o_ (l.drop a) a)∧Below w.heap.size w r:=by
 have y:=O (show ¬ (l.drop a).length=0 by simp;omega);have C:=O (show ¬ fZ (gt (l.drop a) 0)=true by rw [uK,G];decide);have A:=O (show ¬ dw (gt (l.drop a) 0)=true by rw [uK,hd];decide);have d:=heap_alloc_new (w.alloc (Obj.cells #[Value.int IntKind.u8 0,Value.string { data:=#[] },Value.int IntKind.i64 0] 80)) (.cells (jM signs) 9);rw [World.size_alloc] at d
 have E:=O d;clear d;go_in
 go_wp2_with (first
  | (go_at_call 106;refine (qD _ _).mono ?_;rintro e r ⟨rfl,rfl⟩)
  | (go_at_call 107;refine (oH _ _).mono ?_;rintro e r ⟨rfl,rfl⟩)
  | (go_at_call 110;refine (QY _).mono ?_;rintro e r ⟨rfl,rfl⟩))
 go_loopw [9] (fun i wr=>∃ n q:Nat,n≤23∧i=.int .i64 n∧wM (l.drop a) n∧wr=((w.alloc (Obj.cells #[Value.int IntKind.u8 0,Value.string { data:=#[] },Value.int IntKind.i64 0] 80)).alloc (.cells (jM signs) 9)).drewN q) (fun i _=>23 - (intOf i).toNat)
 case atStart=>exact⟨0,0,ak2 _,rfl,BD _,rfl⟩
 case round =>
  obtain⟨n,q,K,rfl,j,rfl⟩:=hrel;have k:=O j;clear j;by_cases b:n < 23
  ·have I:=Cy E.o n (show n < signs.length from b);have c:=aaG (sg signs n) l a
   have H:(sg signs n).length≤2:=by
    have:∀ g ∈ signs,g.length≤2:=by decide
    refine this _ ?_;rw [Nt _ _ (show n < signs.length from b)];exact List.getElem_mem _
   by_cases D:a+(sg signs n).length≤l.length
   ·have x:(a:Int)+((sg signs n).length:Int)≤(l.length:Int):=by omega
    have h:max a l.length=l.length:=by omega
    rw [h] at c
    rw [ak' D,Bool.true_and] at c
    have m:=O c;clear c;clear h;go_wp2;have L:((a:Int)+((sg signs n).length:Int)).toNat=a+(sg signs n).length:=by omega
    have h00:0≤(a:Int)+((sg signs n).length:Int):=by omega
    have f:IntKind.i64.wrap ((a:Int)+((sg signs n).length:Int))=(a:Int)+((sg signs n).length:Int):=IntWalk.i64_in _ (by omega);go_quiet (fail)
    clear f;go_wp2
    ·have u:((l.take (a+(sg signs n).length)).drop a == sg signs n)=true:=by assumption
     have t:=O (oh _ y.o C.o A.o _ (Fu (l.drop a) n b k.o (by rw [m.o];exact u)));refine bodyPost_ret (v:=o_ (l.drop a) a) ?_ rfl ⟨rfl,by (go_grown;exact gJ (by go_grown) _)⟩;simp only [o_,t.o];simp [results,Tryz.results67,go_sem]
     rfl
    ·have u:((l.take (a+(sg signs n).length)).drop a == sg signs n)=false:=by assumption
     exact⟨⟨n+1,_,by omega,by go_num,uU _ n b k.o (by rw [m.o];exact u),rfl⟩,by simp [intOf];omega⟩
   ·have x:(decide ((a:Int)+((sg signs n).length:Int)≤(l.length:Int)))=false:=by simp;omega
    have h:max a l.length=l.length:=by omega
    rw [h] at c
    rw [ala D,Bool.false_and] at c
    have m:=O c;clear c;clear h;go_wp2;have f:IntKind.i64.wrap ((a:Int)+((sg signs n).length:Int))=(a:Int)+((sg signs n).length:Int):=IntWalk.i64_in _ (by omega);go_quiet (fail)
    clear f;go_wp2;exact⟨⟨n+1,_,by omega,by go_num,uU _ n b k.o m.o,rfl⟩,by simp [intOf];omega⟩
  ·have e:n=23:=by omega
   have t:=O (n_ _ y.o C.o A.o (BL (l.drop a) (e ▸ k.o)));clear e;go_wp2;refine bodyPost_ret (v:=o_ (l.drop a) a) ?_ rfl ⟨rfl,by (go_grown;exact gJ (by go_grown) _)⟩;simp only [o_,t.o];simp [results,Tryz.results67,go_sem]
   rfl
theorem Fe (l:Bs)(a:Nat)(w:World)(b:l.length≤100000000)(f:a≤l.length) :
  Calls Tryz.prog 67 #[.string (aH l),.int .i64 a] w fun e d=>e=.returned (o_ (l.drop a) a)∧Below w.heap.size w d:=by
 rcases Nat.lt_or_ge a l.length with h | h
 ·cases c:fZ (gt l a)
  ·cases hd:dw (gt l a)
   ·exact Nc l a w b h c hd
   ·exact JY l a w b h c hd
  ·exact JZ l a w b h c
 ·exact QM l a w b (by omega)
