/-
  A part of the proof.
-/
import Derived.WalkSpells
import Derived.WalkLawsBesides
import Derived.Handy
import Derived.Lib.AppendIntMem
import Derived.Lib.SmallJoins
import Derived.Test.YtajfdjikimiapaaGreatDoorShelf
import Derived.Test.YtajfdjikimiapaaGreatDoorS02
set_option linter.all false
set_option maxRecDepth 100000
set_option maxHeartbeats 1000000
namespace Mist
structure Pz where
 text:Bs
 blank:Bool
 node:Int
 deriving DecidableEq,Inhabited
def l9 (k:Nat):Nat :=
 if k=19∨k=20 then 1 else if k=18 then 2 else if k=17 then 3 else if k=5 then 4 else if 11≤k∧k≤16 then 5
 else if k=6∨k=7 then 6 else if k=8∨k=9∨k=10 then 7 else if k=4 then 8 else if 1≤k∧k≤26∧k ≠ 25 then 9 else 0
def n_ (own:Nat)(j:Nat)(kid:Nat):Bool :=
 if own=4∨own=5∨own=22 then decide (l9 own≤l9 kid)
 else if own=23 then decide (0 < j) || decide (l9 own≤l9 kid)
 else if 6≤own∧own≤10∨own=17∨own=18 then decide (l9 own < l9 kid) || (decide (l9 kid=l9 own) && decide (j=0))
 else if 11≤own∧own≤16 then decide (l9 own < l9 kid)
 else true
def aH (b:Bool):List Pz→List Pz
 | []=>[]
 | p :: r=>⟨p.text,b,p.node⟩ :: r
def tz (t:Bs)(n:Int):Pz:=⟨t,false,n⟩
def lz (t:Bs)(n:Int):Pz:=⟨t,true,n⟩
def mQ (k:Nat):Bs :=
 if k=6 then [43] else if k=7 then [45] else if k=8 then [42] else if k=9 then [47] else if k=10 then [37]
 else if k=11 then [61,61] else if k=12 then [33,61] else if k=13 then [60] else if k=14 then [60,61] else if k=15 then [62] else if k=16 then [62,61]
 else if k=17 then [97,110,100] else [111,114]
def gG:List Bs:=[[],[109,117,115,116],[109,97,121],[99,111,117,110,116],[98,111,117,110,100,115],[118,97,108,117,101,115],[119,104,121],[98,108,97,109,101],[108,111,111,107]]
def dZ (L:Nat→List Pz):Nat→List Pz
 | 0=>[]
 | m+1=>if m=0 then L 0 else dZ L m ++ tz [44] (-1) :: aH true (L m)
section
variable (T:Tr) (B:Nat→List Pz)
def bM (i j:Nat):List Pz :=
 let k:=((nd T i).kids.getD j 0).toNat
 if n_ (nd T i).kind j (nd T k).kind then B k else tz [40] (-1) :: (aH false (B k) ++ [tz [41] (-1)])
def dD (i:Nat)(m:Nat):List Pz:=dZ (bM T B i) m
def gI (n:Int)(x:Int):List Pz:=if n < 0 then [tz [45] x,tz (Go.Lib.itoa (-n)) (-1)] else [tz (Go.Lib.itoa n) x]
def aW (i:Nat):List Pz :=
 let n:=nd T i
 let x:Int:=(i:Int)
 let kid:=bM T B i
 if n.kind=1 then gI n.n x
 else if n.kind=2 then [tz (if n.n=1 then [116,114,117,101] else [102,97,108,115,101]) x]
 else if n.kind=3∨n.kind=32 then [tz n.text x]
 else if n.kind=4 then tz [45] x :: aH (decide (((kid 0).headD default).text=[45])) (kid 0)
 else if n.kind=5 then tz [110,111,116] x :: aH true (kid 0)
 else if n.kind=19 then tz [105,102] x :: (aH true (kid 0) ++ lz [116,104,101,110] (-1) :: (aH true (kid 1) ++ lz [101,108,115,101] (-1) :: aH true (kid 2)))
 else if n.kind=20 then tz [108,101,116] x :: lz n.text (-1) :: lz [61] (-1) :: (aH true (kid 0) ++ lz [105,110] (-1) :: aH true (kid 1))
 else if n.kind=21 then tz n.text x :: tz [40] (-1) :: (aH false (dD T B i n.kids.length) ++ [tz [41] (-1)])
 else if n.kind=22 then kid 0 ++ [tz [46] x,tz n.text (-1)]
 else if n.kind=23 then kid 0 ++ tz [91] x :: (aH false (kid 1) ++ [tz [93] (-1)])
 else if n.kind=24 then tz n.text x :: tz [123] (-1) :: (aH false (dD T B i n.kids.length) ++ [tz [125] (-1)])
 else if n.kind=25∨n.kind=34 then tz n.text x :: tz [58] (-1) :: aH true (kid 0)
 else if n.kind=26 then tz [91] x :: (aH false (dD T B i n.kids.length) ++ [tz [93] (-1)])
 else if n.kind=30 then [tz [105,110,116] x]
 else if n.kind=31 then [tz [98,111,111,108] x]
 else if n.kind=33 then tz [91] x :: (aH false (kid 0) ++ tz [59] (-1) :: lz (Go.Lib.itoa n.n) (-1) :: [tz [93] (-1)])
 else if n.kind=40 then tz [99,104,111,111,115,101] x :: lz n.text (-1) :: tz [58] (-1) :: (aH true (kid 0) ++ tz [46,46] (-1) :: (aH false (kid 1) ++ [tz [59] (-1)]))
 else if n.kind=41 then tz [116,121,112,101] x :: lz n.text (-1) :: lz [61] (-1) :: lz [123] (-1) :: (aH false (dD T B i n.kids.length) ++ [tz [125] (-1),tz [59] (-1)])
 else if n.kind=42 then tz [102,117,110] x :: lz n.text (-1) :: tz [40] (-1) :: (aH false (dD T B i (n.kids.length - 2)) ++ tz [41] (-1) :: tz [58] (-1) :: (aH true (kid (n.kids.length - 2)) ++
   ((if 0 < n.n then [lz [117,112,116,111] (-1),lz (Go.Lib.itoa n.n) (-1)] else []) ++ lz [61] (-1) :: (aH true (kid (n.kids.length - 1)) ++ [tz [59] (-1)]))))
 else if n.kind=43 then tz [108,101,116] x :: lz n.text (-1) :: lz [61] (-1) :: (aH true (kid 0) ++ [tz [59] (-1)])
 else if n.kind=44 then tz [111,98,115,101,114,118,101] x :: lz n.text (-1) :: tz [58] (-1) :: (aH true (kid 0) ++ [tz [59] (-1)])
 else if n.kind=45 then [tz [114,101,116,114,97,99,116] x,lz n.text (-1),tz [59] (-1)]
 else if n.kind=46 then tz [97,115,107] x :: lz (gG.getD n.n.toNat []) (-1) :: (aH true (dD T B i n.kids.length) ++ [tz [59] (-1)])
 else kid 0 ++ lz (mQ n.kind) x :: aH true (kid 1)
end
def ah (T:Tr):Nat→Nat→List Pz
 | 0,_=>[]
 | f+1,i=>aW T (ah T f) i
def dW:List Pz→Bs
 | []=>[]
 | p :: r=>(if p.blank then [32] else []) ++ (p.text ++ dW r)
end Mist
namespace Mist
theorem ak (b:Bool)(l:List Pz):(aH b l).length=l.length:=by cases l <;> rfl
theorem Sq (b:Bool){l:List Pz}(h:l ≠ [])(r:List Pz):aH b (l ++ r)=aH b l ++ r:=by
 cases l with
 | nil=>exact absurd rfl h
 | cons x l=>rfl
def adi (ps:List Pz)(t:Bs)(n:Int):List Pz:=ps ++ [⟨t,decide (0 < ps.length),n⟩]
def mq (a:Nat)(ps:List Pz):List Pz:=ps.modify a fun p=>⟨p.text,false,p.node⟩
theorem Rv (ps l:List Pz)(b:Bool):mq ps.length (ps ++ aH b l)=ps ++ aH false l:=by
 induction ps with
 | nil=>cases l <;> rfl
 | cons x ps a =>
  show mq (ps.length+1) (x :: (ps ++ aH b l))=x :: (ps ++ aH false l)
  rw [← a];rfl
def gH (ps l:List Pz):List Pz:=ps ++ aH (decide (0 < ps.length)) l
theorem aaV (ps:List Pz)(t:Bs)(n:Int):adi ps t n=gH ps [tz t n]:=rfl
theorem Qq {ps:List Pz}(h:0 < ps.length)(l:List Pz):gH ps l=ps ++ aH true l:=by unfold gH;rw [aiG h]
theorem dR (ps l:List Pz):(gH ps l).length=ps.length+l.length:=by unfold gH;rw [aiA,ak]
theorem uz (ps:List Pz){l:List Pz}(h:l ≠ [])(r:List Pz):gH ps (l ++ r)=gH ps l ++ r:=by
 unfold gH;rw [Sq _ h,List.append_assoc]
theorem qO (ps:List Pz)(l r:List Pz)(h:l ≠ []):gH (gH ps l) r=gH ps (l ++ aH true r):=by
 have h1:0 < (gH ps l).length:=by
  rw [dR]
  have:0 < l.length:=List.length_pos_iff.2 h
  omega
 rw [Qq h1,uz _ h]
theorem uo (ps l:List Pz):mq ps.length (gH ps l)=ps ++ aH false l:=Rv _ _ _
section
variable {T:Tr} {B:Nat→List Pz}
theorem aaJ {i j:Nat}(a:B ((nd T i).kids.getD j 0).toNat ≠ []):bM T B i j ≠ []:=by
 unfold bM;simp only
 split
 ·exact a
 ·simp
end
theorem XD {L:Nat→List Pz}{m:Nat}(a:L 0 ≠ [])(b:0 < m):dZ L m ≠ []:=by
 cases m with
 | zero=>omega
 | succ m =>
  rw [dZ];split
  ·exact a
  ·simp
theorem Ia (ps:List Pz):gH ps []=ps:=by unfold gH;exact List.append_nil ps
theorem Te (ps:List Pz)(L:Nat→List Pz):gH ps (dZ L 1)=gH (gH ps (dZ L 0)) (L 0):=by
 show gH ps (L 0)=gH (gH ps []) (L 0)
 rw [Ia]
theorem X9 (ps:List Pz)(L:Nat→List Pz){m:Nat}(h0:L 0 ≠ [])(a:0 < m):gH ps (dZ L (m+1))=gH (gH ps (dZ L m) ++ [tz [44] (-1)]) (L m):=by
 have e:dZ L (m+1)=dZ L m ++ tz [44] (-1) :: aH true (L m):=by rw [dZ,if_neg (by omega)]
 rw [e,uz _ (XD h0 a),Qq (ps:=gH ps (dZ L m) ++ [tz [44] (-1)]) (by simp),List.append_assoc];rfl
end Mist
namespace Go.Proofs.YtajfdjikimiapaaGreatDoor
section
open Go.RowKit Mist
attribute [local go_sem] au aN aV aM
theorem qp {k:IntKind}{a b:Int}(h:a=b):Ending.returned (.int k a)=.returned (.int k b):=by rw [h]
theorem bD {a b:Bool}(h:a=b):Ending.returned (.bool a)=.returned (.bool b):=by rw [h]
theorem UJ (b:UInt8)(w:World) :
  Calls Tryz.prog 132 #[.int .u8 b.toNat] w fun e a=>e=.returned (.bool (jk b))∧w=a:=by
 go_in
 go_wp2
 all_goals
  go_ret
  refine⟨bD ?_,rfl⟩
  rw [aiu];simp [jk,UInt8.le_iff_toNat_le,← UInt8.toNat_inj] <;> omega
theorem aas (b:UInt8)(w:World) :
  Calls Tryz.prog 133 #[.int .u8 b.toNat] w fun e a=>e=.returned (.bool (Bo b))∧w=a:=by
 go_in
 go_wp2
 all_goals
  go_ret
  refine⟨bD ?_,rfl⟩
  rw [aiu];simp [Bo,← UInt8.toNat_inj] <;> omega
theorem Oo (b:UInt8)(w:World) :
  Calls Tryz.prog 135 #[.int .u8 b.toNat] w fun e a=>e=.returned (.bool (jO b))∧w=a:=by
 go_in
 go_wp2
 all_goals
  go_ret
  refine⟨bD ?_,rfl⟩
  rw [aiu];simp [jO,← UInt8.toNat_inj] <;> omega
theorem uG (b:UInt8)(w:World) :
  Calls Tryz.prog 136 #[.int .u8 b.toNat] w fun e a=>e=.returned (.bool (eY b))∧w=a:=by
 go_in
 go_wp2
 all_goals
  go_ret
  refine⟨bD ?_,rfl⟩
  rw [aiu];simp [eY,UInt8.le_iff_toNat_le] <;> omega
theorem zh (b:UInt8)(w:World) :
  Calls Tryz.prog 140 #[.int .u8 b.toNat] w fun e a=>e=.returned (.bool (bU b))∧w=a:=by
 go_in
 go_wp2
 all_goals
  go_ret
  refine⟨bD ?_,rfl⟩
  rw [aiu];simp [bU,UInt8.le_iff_toNat_le] <;> omega
theorem Yn (b:UInt8)(w:World) :
  Calls Tryz.prog 137 #[.int .u8 b.toNat] w fun e a=>e=.returned (.bool (dQ b))∧w=a:=by
 go_in
 go_wp2
 all_goals
  go_ret
  refine⟨bD ?_,rfl⟩
  rw [aiu];simp [dQ,eY,bU,UInt8.le_iff_toNat_le] <;> omega
theorem oP (b:UInt8)(w:World) :
  Calls Tryz.prog 222 #[.int .u8 b.toNat] w fun e a=>e=.returned (.bool (eY b))∧w=a:=by
 go_in
 go_wp2
 all_goals
  go_ret
  refine⟨bD ?_,rfl⟩
  rw [aiu];simp [eY,UInt8.le_iff_toNat_le] <;> omega
theorem nu (b:UInt8)(w:World) :
  Calls Tryz.prog 223 #[.int .u8 b.toNat] w fun e a=>e=.returned (.bool (bU b))∧w=a:=by
 go_in
 go_wp2
 all_goals
  go_ret
  refine⟨bD ?_,rfl⟩
  rw [aiu];simp [bU,UInt8.le_iff_toNat_le] <;> omega
theorem o_ (p:UInt8→Bool)(l:Bs)(n:Nat)(h:n≤l.length)(a:∀ c ∈ l.take n,p c=true)(b:n=l.length∨n < l.length∧p (gt l n)=false):bQ p l=n:=by
 unfold bQ;have h1:l=l.take n ++ l.drop n:=(List.take_append_drop n l).symm;rw [h1,List.takeWhile_append_of_pos a]
 have h2:(l.drop n).takeWhile p=[]:=by
  rcases b with rfl | ⟨e,d⟩
  ·simp
  ·rw [wV l n e,List.takeWhile_cons,d];rfl
 rw [h2];simp;omega
theorem sP (p:UInt8→Bool)(l:Bs)(n:Nat)(h:n < l.length)(a:∀ c ∈ l.take n,p c=true)(d:p (gt l n)=true):∀ c ∈ l.take (n+1),p c=true:=by
 rw [abl l n h];simp only [List.mem_append,List.mem_singleton];rintro c (b | rfl)
 ·exact a c b
 ·exact d
theorem En (l:Bs)(w:World)(j:l.length≤100000000) :
  Calls Tryz.prog 134 #[.string (aU l),.func (.func 137) #[] #[]] w fun e h=>e=.returned (.int .i64 (bQ dQ l))∧w=h:=by
 go_in
 go_wp2;go_loop [5] (fun i=>∃ n:Nat,n≤l.length∧i=.int .i64 n∧(∀ c ∈ l.take n,dQ c=true)) (fun i=>l.length - (intOf i).toNat)
 case atStart=>exact⟨0,aix _,rfl,by simp⟩
 case round =>
  obtain⟨n,g,rfl,a⟩:=hrel;have d:=O a;clear a;by_cases b:n < l.length
  ·go_wp2_with (go_at_call 137;refine (Yn _ _).mono ?_;rintro e h ⟨rfl,rfl⟩)
   ·have f:dQ (gt l n)=true:=by assumption
    exact⟨⟨n+1,by omega,by go_num,sP _ _ _ b d.o f⟩,by simp [intOf];omega⟩
   ·have f:dQ (gt l n)=false:=by assumption
    go_ret;exact⟨qp (by rw [o_ _ _ _ g d.o (.inr ⟨b,f⟩)]),rfl⟩
  ·go_wp2;go_ret;exact⟨qp (by rw [o_ _ _ _ g d.o (.inl (by omega))]),rfl⟩
theorem Lr (l:Bs)(w:World)(j:l.length≤100000000) :
  Calls Tryz.prog 134 #[.string (aU l),.func (.func 140) #[] #[]] w fun e h=>e=.returned (.int .i64 (bQ bU l))∧w=h:=by
 go_in
 go_wp2;go_loop [5] (fun i=>∃ n:Nat,n≤l.length∧i=.int .i64 n∧(∀ c ∈ l.take n,bU c=true)) (fun i=>l.length - (intOf i).toNat)
 case atStart=>exact⟨0,aix _,rfl,by simp⟩
 case round =>
  obtain⟨n,g,rfl,a⟩:=hrel;have d:=O a;clear a;by_cases b:n < l.length
  ·go_wp2_with (go_at_call 140;refine (zh _ _).mono ?_;rintro e h ⟨rfl,rfl⟩)
   ·have f:bU (gt l n)=true:=by assumption
    exact⟨⟨n+1,by omega,by go_num,sP _ _ _ b d.o f⟩,by simp [intOf];omega⟩
   ·have f:bU (gt l n)=false:=by assumption
    go_ret;exact⟨qp (by rw [o_ _ _ _ g d.o (.inr ⟨b,f⟩)]),rfl⟩
  ·go_wp2;go_ret;exact⟨qp (by rw [o_ _ _ _ g d.o (.inl (by omega))]),rfl⟩
theorem IG (l:Bs)(w:World)(j:l.length≤100000000) :
  Calls Tryz.prog 134 #[.string (aU l),.func (.func 135) #[] #[]] w fun e h=>e=.returned (.int .i64 (bQ jO l))∧w=h:=by
 go_in
 go_wp2;go_loop [5] (fun i=>∃ n:Nat,n≤l.length∧i=.int .i64 n∧(∀ c ∈ l.take n,jO c=true)) (fun i=>l.length - (intOf i).toNat)
 case atStart=>exact⟨0,aix _,rfl,by simp⟩
 case round =>
  obtain⟨n,g,rfl,a⟩:=hrel;have d:=O a;clear a;by_cases b:n < l.length
  ·go_wp2_with (go_at_call 135;refine (Oo _ _).mono ?_;rintro e h ⟨rfl,rfl⟩)
   ·have f:jO (gt l n)=true:=by assumption
    exact⟨⟨n+1,by omega,by go_num,sP _ _ _ b d.o f⟩,by simp [intOf];omega⟩
   ·have f:jO (gt l n)=false:=by assumption
    go_ret;exact⟨qp (by rw [o_ _ _ _ g d.o (.inr ⟨b,f⟩)]),rfl⟩
  ·go_wp2;go_ret;exact⟨qp (by rw [o_ _ _ _ g d.o (.inl (by omega))]),rfl⟩
theorem zP {s:Bs}{a b:Nat}{x y:Int}(h:check s=(a,b))(c:x=a)(hy:y=b):Ending.returned (.tuple #[.int .i64 x,.int .i64 y])=.returned (.tuple #[.int .i64 (check s).1,.int .i64 (check s).2]):=by
 subst c;subst hy;rw [h]
theorem Y2 (p:UInt8→Bool)(l:Bs)(n:Nat)(h:l.length≤n)(a:∀ c ∈ l.take n,p c=true):∀ c ∈ l,p c=true:=by
 rwa [aiz h] at a
theorem afe {b:UInt8}{k:Nat}(a:k < 256)(e:(b.toNat:Int)=k):b=UInt8.ofNat k:=by
 apply UInt8.toNat_inj.1
 rw [UInt8.toNat_ofNat'];omega
theorem afd {b:UInt8}{k:Nat}(a:k < 256)(e:¬ (b.toNat:Int)=k):b ≠ UInt8.ofNat k:=by
 intro g;apply e
 rw [g,UInt8.toNat_ofNat'];omega
theorem acC {b:UInt8}{k:Int}(h:((b.toNat:Int) == k)=true):(b.toNat:Int)=k:=beq_iff_eq.1 h
theorem acD {b:UInt8}{k:Int}(h:((b.toNat:Int) == k)=false):¬ (b.toNat:Int)=k:=by simpa using h
theorem Fy (l:Bs)(w:World)(h:l.length≤100000000) :
  Calls Tryz.prog 93 #[.string (aU l)] w fun e g=>e=.returned (.tuple #[.int .i64 (check l).1,.int .i64 (check l).2])∧w=g:=by
 by_cases h2:2000 < l.length
 ·go_in
  go_wp2;go_ret2
  exact⟨zP (Ni l h2) rfl rfl,rfl⟩
 ·have h2:l.length≤2000:=Nat.le_of_not_lt h2;go_in
  go_wp2;go_loop [10] (fun i=>∃ n:Nat,n≤l.length∧i=.int .i64 n∧(∀ c ∈ l.take n,jk c=true)) (fun i=>l.length - (intOf i).toNat)
  case atStart=>exact⟨0,aix _,rfl,by simp⟩
  case round =>
   obtain⟨n,j,rfl,a⟩:=hrel;have d:=O a;clear a;by_cases b:n < l.length
   ·go_wp2_with (go_at_call 132;refine (UJ _ _).mono ?_;rintro e g ⟨rfl,rfl⟩)
    ·have f:jk (gt l n)=false:=by simpa using (by assumption:(!jk (gt l n))=true)
     go_ret2
     exact⟨zP (Rt l n h2 b d.o f) rfl rfl,rfl⟩
    ·have f:jk (gt l n)=true:=by simpa using (by assumption:(!jk (gt l n))=false)
     exact⟨⟨n+1,by omega,by go_num,sP _ _ _ b d.o f⟩,by simp [intOf];omega⟩
   ·go_wp2;go_ret2
    exact⟨zP (Wu l h2 (Y2 _ _ _ (by omega) d.o)) rfl rfl,rfl⟩
theorem Lh (l:Bs)(w:World)(m:l.length≤100000000) :
  Calls Tryz.prog 94 #[.string (aU l)] w fun e g=>e=.returned (.int .i64 (skip l))∧w=g:=by
 go_in
 go_wp2;go_loop [3] (fun i=>∃ n:Nat,n≤l.length∧i=.int .i64 n∧skip l=n+skip (l.drop n)) (fun i=>l.length - (intOf i).toNat)
 case atStart=>exact⟨0,aix _,rfl,by simp⟩
 case round =>
  obtain⟨n,q,rfl,b⟩:=hrel;have c:=O b;clear b;by_cases a:n < l.length
  ·have j:bQ jO (l.drop n)≤l.length - n:=by have:=pq jO (l.drop n);simpa using this
   go_wp2_with (first
    | (go_at_call 133;refine (aas _ _).mono ?_;rintro e g ⟨rfl,rfl⟩)
    | (go_at_call 134;refine (IG (l.drop n) _ (by simp;omega)).mono ?_;rintro e g ⟨rfl,rfl⟩))
   ·have f:Bo (gt l n)=true:=by assumption
    exact⟨⟨n+1,by omega,by go_num,by have:=c.o;have:=YZ l n a f;omega⟩,by simp [intOf];omega⟩
   ·have d:gt l n=35:=afe (k:=35) (by omega) (acC (by assumption));have h:=ET l n a d;exact⟨⟨n+bQ jO (l.drop n),by omega,by go_num,by have:=c.o;have:=UC l n a d;omega⟩,by simp [intOf];omega⟩
   ·have f:Bo (gt l n)=false:=by assumption
    have d:gt l n ≠ 35:=afd (k:=35) (by omega) (acD (by assumption));go_ret;exact⟨qp (by have:=c.o;have:=UD l n a f d;omega),rfl⟩
  ·go_wp2;go_ret;exact⟨qp (by have:=c.o;have:=YX l n (by omega);omega),rfl⟩
theorem Ay (l:Bs):iB l=(decide (l.length≤4) && (l.length == 1 || ((gt l 0).toNat:Int) != 48)):=by
 have:(gt l 0 != 48)=(((gt l 0).toNat:Int) != 48):=by
  rw [aiu];simp [← UInt8.toNat_inj]
  omega
 rw [iB,this]
theorem Ho (l:Bs)(w:World)(d:l.length≤100000000)(h0:0 < l.length) :
  Calls Tryz.prog 141 #[.string (aU l)] w fun e c=>e=.returned (.bool (iB l))∧w=c:=by
 have a:=O (Ay l);by_cases h4:l.length≤4
 ·by_cases h1:((l.length:Int) == 1)=true
  ·go_in
   go_wp2;go_ret
   refine⟨bD ?_,rfl⟩
   rw [a.o];simp at h1
   simp;omega
  ·have b:((l.length:Int) == 1)=false:=by simpa using h1
   clear h1;go_in
   go_wp2;go_ret
   refine⟨bD ?_,rfl⟩
   rw [a.o];simp at b
   simp [h4];omega
 ·go_in
  go_wp2;go_ret
  refine⟨bD ?_,rfl⟩
  rw [a.o];simp;omega
def Env (w : World) : Prop := ∃ B, B ≤ w.heap.size ∧ Lib.TabBelow Tryz.prog B w "strings.asciiSpace" IntKind.u8 Lib.asciiSpaceTab
theorem Env.tab {w : World} (h : Env w) : Lib.TabIs Tryz.prog w "strings.asciiSpace" IntKind.u8 Lib.asciiSpaceTab := by
 obtain⟨B,_,h⟩:=h;exact h.here
theorem Env.below {w e:World}(h:Env w)(d:Below w.heap.size w e):Env e:=by
 obtain⟨B,c,h⟩:=h;exact⟨B,Nat.le_trans c d.size,fun b a=>h b ((d.mono c).trans a)⟩
theorem Env.alloc {w:World}(h:Env w)(o:Obj):Env (w.alloc o):=h.below ((Below.refl _ _).alloc (aiv _) o)
theorem Env.drew {w:World}(h:Env w):Env w.drew:=h.below ((Below.refl _ _).drew)
def iR (l:List Bs):Array Value:=(l.map fun x=>Value.string (aU x)).toArray
theorem Ed (l:List Bs)(i:Nat)(h:i < l.length):(iR l)[i]? = some (.string (aU (sg l i))):=by
 simp [iR,sg,h]
theorem CJ (l:List UInt8)(h:l.all (fun b=>decide (b.toNat < 128))=true):∀ (j:Nat) (b:UInt8),l[j]? = some b→b.toNat < 128:=by
 intro j b a
 have:=aiD.1 h b (aiy a)
 simpa using this
theorem Bt:Lib.fields [97,110,100,32,97,115,107,32,98,108,97,109,101,32,98,111,111,108,32,98,111,117,110,100,115,32,99,104,111,111,115,101,32,99,111,117,110,116,32,101,108,115,101,32,102,97,108,115,101,32,102,117,110,32,105,102,32,105,110,32,105,110,116,32,108,101,116,32,108,111,111,107,32,109,97,121,32,109,117,115,116,32,110,111,116,32,111,98,115,101,114,118,101,32,111,114,32,114,101,116,114,97,99,116,32,116,104,101,110,32,116,114,117,101,32,116,121,112,101,32,117,112,116,111,32,118,97,108,117,101,115,32,119,104,121]=keywords:=by decide +kernel
theorem Ip:Lib.fields [61,61,32,33,61,32,60,61,32,62,61,32,46,46,32,43,32,45,32,42,32,47,32,37,32,60,32,62,32,61,32,40,32,41,32,91,32,93,32,123,32,125,32,44,32,58,32,59,32,46]=signs:=by decide +kernel
theorem xw (w:World)(a:Env w) :
  Calls Tryz.prog 139 #[] w fun e b=>e=.returned (.slice (some ⟨w.heap.size,0,none⟩) 27 27)∧w.alloc (.cells (iR keywords) 9)=b:=by
 go_in
 go_wp2_with (go_at_call 111;refine (Tryz.strings_Fields_laid _ _ ?c1 ?c2 a.tab).mono ?_)
 case c1=>decide +kernel
 case c2=>exact CJ _ (by decide +kernel)
 ·go_ret;simp only [Bt];exact⟨rfl,rfl⟩
theorem Uy (w:World)(a:Env w) :
  Calls Tryz.prog 142 #[] w fun e b=>e=.returned (.slice (some ⟨w.heap.size,0,none⟩) 23 23)∧w.alloc (.cells (iR signs) 9)=b:=by
 go_in
 go_wp2_with (go_at_call 111;refine (Tryz.strings_Fields_laid _ _ ?c1 ?c2 a.tab).mono ?_)
 case c1=>decide +kernel
 case c2=>exact CJ _ (by decide +kernel)
 ·go_ret;simp only [Ip];exact⟨rfl,rfl⟩
theorem ER (w:World) :
  Calls Tryz.prog 225 #[] w fun e a=>e=.returned (.slice (some ⟨w.heap.size,0,none⟩) 27 27)∧w.alloc (.cells (iR keywords) 9)=a:=by
 go_in
 go_wp2;go_ret;exact⟨rfl,rfl⟩
theorem OL (w:World) :
  Calls Tryz.prog 226 #[] w fun e a=>e=.returned (.slice (some ⟨w.heap.size,0,none⟩) 23 23)∧w.alloc (.cells (iR signs) 9)=a:=by
 go_in
 go_wp2;go_ret;exact⟨rfl,rfl⟩
theorem Cc {w:World}{b:Nat}{xs:List Bs}{T:TypeId}{fr:Nat × Nat}(a:w.heap[b]? = some (.cells (iR xs) T fr))(j:Nat)(h:j < xs.length) :
  w.cell? ⟨b,j,none⟩=some (.string (aU (sg xs j))):=by
 rw [Lib.cell_of_heap a];exact Ed xs j h
theorem ac7 (xs:List Bs)(x:Bs)(b c T:Nat)(fr:Nat × Nat)(w:World)(h:w.heap[b]? = some (.cells (iR xs) T fr))(m:xs.length≤1000) :
  Calls Tryz.prog 224 #[.slice (some ⟨b,0,none⟩) xs.length c,.string (aU x)] w fun e k=>e=.returned (.bool (hasB xs x))∧w=k:=by
 have j:=O h;clear h;go_in
 go_wp2;go_loop [5] (fun i=>∃ n:Nat,n≤xs.length∧i=.int .i64 n∧hasB (xs.take n) x=false) (fun i=>xs.length - (intOf i).toNat)
 case atStart=>exact⟨0,aix _,rfl,rfl⟩
 case round =>
  obtain⟨n,q,rfl,a⟩:=hrel;have g:=O a;clear a;by_cases d:n < xs.length
  ·have l:=Cc j.o n d;go_wp2
   ·have f:(sg xs n == x)=true:=by assumption
    go_ret;exact⟨bD (aaw xs x n d (beq_iff_eq.1 f)).symm,rfl⟩
   ·have f:(sg xs n == x)=false:=by assumption
    exact⟨⟨n+1,by omega,by go_num,by rw [R6 xs x n d,g.o,Bool.false_or,BEq.comm,f]⟩,by simp [intOf];omega⟩
  ·go_wp2;go_ret;exact⟨bD (by have:=g.o;rw [aiz (by omega)] at this;exact this.symm),rfl⟩
theorem aaE (xs:List Bs)(x:Bs)(b c n T:Nat)(fr:Nat × Nat)(w:World)(a:w.heap[b]? = some (.cells (iR xs) T fr))(d:xs.length≤1000)(f:n=xs.length) :
  Calls Tryz.prog 224 #[.slice (some ⟨b,0,none⟩) n c,.string (aU x)] w fun e g=>e=.returned (.bool (hasB xs x))∧w=g:=by
 subst f;exact ac7 xs x b c T fr w a d
theorem rE (xs:List Bs)(x:Bs)(b c n T:Nat)(fr:Nat × Nat)(w:World)(g:w.heap[b]? = some (.cells (iR xs) T fr))(m:xs.length≤1000)(k:n=xs.length) :
  Calls Tryz.prog 138 #[.slice (some ⟨b,0,none⟩) n c,.string (aU x)] w fun e f=>e=.returned (.bool (hasB xs x))∧w=f:=by
 subst k;refine (Tryz.slices_Contains_string b 0 xs.length c (xs.map aU) (aU x) w (by simp) (by omega) ?_).mono ?_
 ·intro j i;have d:j < xs.length:=by simpa using i
  rw [Nat.zero_add,Cc g j d];simp [d,sg]
 ·rintro e f ⟨rfl,rfl⟩
  refine⟨bD ?_,rfl⟩
  rw [aiu,Lib.containsS_iff];simp only [hasB,List.contains_iff_mem];rw [aiz (by simp),List.mem_map];constructor
  ·rintro⟨a,l,e⟩
   rwa [← aaU e]
  ·exact fun h=>⟨x,h,rfl⟩
theorem EH (s p:Bs)(w:World) :
  Calls Tryz.prog 143 #[.string (aU s),.string (aU p)] w fun e a=>e=.returned (.bool (qQ p s))∧w=a :=
 (Tryz.strings_HasPrefix (aU s) (aU p) w).mono fun _ _ h=>⟨h.1,h.2.symm⟩
theorem uD {k:Nat}{t:Bs}{l:Bs}{a:Int}{b:Bs}(h:first l=(k,t))(c:a=k)(d:b=t) :
  Ending.returned (.tuple #[.int .u8 a,.string (aU b)])=.returned (.tuple #[.int .u8 (first l).1,.string (aU (first l).2)]):=by
 subst c;subst d;rw [h]
theorem t_ (l:Bs)(w:World)(H:Env w)(E:l.length≤100000000) :
  Calls Tryz.prog 95 #[.string (aU l)] w fun e a=>e=.returned (.tuple #[.int .u8 (first l).1,.string (aU (first l).2)])∧Below w.heap.size w a:=by
 have A:=O H;clear H;by_cases h00:l.length=0
 ·have D:l.isEmpty=true:=by cases l <;> simp_all
  have f:=O h00;clear h00;go_in
  go_wp2;go_ret2
  exact⟨uD (b:=[]) (nK l f.o) rfl rfl,Below.refl _ _⟩
 have D:l.isEmpty=false:=by cases l <;> simp_all
 have h0:0 < l.length:=by omega
 have f:=O h00;clear h00;by_cases g:eY (gt l 0)=true
 ·have L:=pq dQ l;have d:=heap_alloc_new w (.cells (iR keywords) 9);have u:=O d;clear d;have c:Below w.heap.size w (w.alloc (.cells (iR keywords) 9)):=(Below.refl _ _).alloc (aiv _) _;have m:=O c;clear c;by_cases q:hasB keywords (l.take (bQ dQ l))=true
  ·go_in
   go_wp2_with (first
    | (go_at_call 136;refine (uG _ _).mono ?_;rintro e a ⟨rfl,rfl⟩)
    | (go_at_call 134;refine (En l _ E).mono ?_;rintro e a ⟨rfl,rfl⟩)
    | (go_at_call 139;refine (xw _ A.o).mono ?_;rintro e a ⟨rfl,rfl⟩)
    | (go_at_call 138;refine (rE keywords _ _ _ _ _ _ _ u.o (by decide) rfl).mono ?_;rintro e a ⟨rfl,rfl⟩))
   go_ret2
   exact⟨uD (qJ l f.o g q) rfl rfl,m.o⟩
  ·have J:hasB keywords (l.take (bQ dQ l))=false:=by simpa using q
   by_cases h:bQ dQ l≤12
   case' pos=>have k:=O (lW l f.o g q h)
   case' neg=>have k:=O (oI l f.o g q h)
   all_goals
    clear q;go_in
    go_wp2_with (first
     | (go_at_call 136;refine (uG _ _).mono ?_;rintro e a ⟨rfl,rfl⟩)
     | (go_at_call 134;refine (En l _ E).mono ?_;rintro e a ⟨rfl,rfl⟩)
     | (go_at_call 139;refine (xw _ A.o).mono ?_;rintro e a ⟨rfl,rfl⟩)
     | (go_at_call 138;refine (rE keywords _ _ _ _ _ _ _ u.o (by decide) rfl).mono ?_;rintro e a ⟨rfl,rfl⟩))
    go_ret2
    exact⟨uD (by first | exact k.o) rfl rfl,m.o⟩
 have K:eY (gt l 0)=false:=by simpa using g
 by_cases hd:bU (gt l 0)=true
 ·have L:=pq bU l
  have x:0 < bQ bU l:=by
   unfold bQ
   cases l with
   | nil=>simp at h0
   | cons b r=>have C:bU b=true:=hd;rw [List.takeWhile_cons_of_pos C];simp
  by_cases h:iB (l.take (bQ bU l))=true
  case' pos=>have k:=O (l6 l f.o g hd h)
  case' neg=>have k:=O (lZ l f.o g hd h);have h:iB (l.take (bQ bU l))=false:=by simpa using h
  all_goals
   clear g;go_in
   go_wp2_with (first
    | (go_at_call 136;refine (uG _ _).mono ?_;rintro e a ⟨rfl,rfl⟩)
    | (go_at_call 140;refine (zh _ _).mono ?_;rintro e a ⟨rfl,rfl⟩)
    | (go_at_call 134;refine (Lr l _ E).mono ?_;rintro e a ⟨rfl,rfl⟩)
    | (go_at_call 141;refine (Ho (l.take (bQ bU l)) _ (by simp;omega) (by simp;omega)).mono ?_;rintro e a ⟨rfl,rfl⟩))
   go_ret2
   exact⟨uD (by exact k.o) rfl rfl,Below.refl _ _⟩
 ·have I:bU (gt l 0)=false:=by simpa using hd
  have d:=heap_alloc_new w (.cells (iR signs) 9);have u:=O d;clear d;have c:Below w.heap.size w (w.alloc (.cells (iR signs) 9)):=(Below.refl _ _).alloc (aiv _) _;have m:=O c;clear c;have G:=O g;clear g;have F:=O hd;clear hd;go_in
  go_wp2_with (first
   | (go_at_call 136;refine (uG _ _).mono ?_;rintro e a ⟨rfl,rfl⟩)
   | (go_at_call 140;refine (zh _ _).mono ?_;rintro e a ⟨rfl,rfl⟩)
   | (go_at_call 142;refine (Uy _ A.o).mono ?_;rintro e a ⟨rfl,rfl⟩))
  go_loop [42] (fun i=>∃ n:Nat,n≤23∧i=.int .i64 n∧vJ l n) (fun i=>23 - (intOf i).toNat)
  case atStart=>exact⟨0,aix _,rfl,AA _⟩
  case round =>
   obtain⟨n,h,rfl,t⟩:=hrel;have y:=O t;clear t;by_cases j:n < 23
   ·have M:=Cc u.o n (show n < signs.length from j);go_wp2_with (go_at_call 143;refine (EH _ _ _).mono ?_;rintro e a ⟨rfl,rfl⟩)
    ·have x:qQ (sg signs n) l=true:=by assumption
     go_ret2
     exact⟨uD (oK l f.o G.o F.o _ (Eb l n j y.o x)) rfl rfl,m.o⟩
    ·have x:qQ (sg signs n) l=false:=by assumption
     exact⟨⟨n+1,by omega,by go_num,tO l n j y.o x⟩,by simp [intOf];omega⟩
   ·go_wp2;go_ret2
    have e:n=23:=by omega
    exact⟨uD (b:=[]) (oJ l f.o G.o F.o (AX l (e ▸ y.o))) rfl rfl,m.o⟩
def Pj (k:Nat)(t:Bs)(a:Int):Value:=.agg #[.int .u8 k,.string (aU t),.int .i64 a]
def nO (l:Bs)(a:Nat):Value:=if (first l).1=0 then Pj 0 [] 0 else Pj (first l).1 (first l).2 a
theorem tu (l:Bs)(a:Nat):gt (l.drop a) 0=gt l a:=by rw [BJ];rfl
theorem Lp (p:UInt8→Bool)(l:Bs)(a k:Nat)(h1:a≤k)(h2:k≤l.length)(b:∀ c ∈ (l.drop a).take (k - a),p c=true)(d:k=l.length∨k < l.length∧p (gt l k)=false) :
  bQ p (l.drop a)=k - a:=by
 refine o_ p _ _ (by simp;omega) b ?_;rcases d with h | ⟨h,e⟩
 ·exact .inl (by simp;omega)
 ·exact .inr ⟨by simp;omega,by rw [BJ,show a+(k - a)=k by omega];exact e⟩
theorem V8 (p:UInt8→Bool)(l:Bs)(a k:Nat)(h1:a≤k)(h2:k < l.length)(b:∀ c ∈ (l.drop a).take (k - a),p c=true)(d:p (gt l k)=true):∀ c ∈ (l.drop a).take (k+1 - a),p c=true:=by
 rw [show k+1 - a=(k - a)+1 by omega];refine sP p _ _ (by simp;omega) b ?_;rw [BJ,show a+(k - a)=k by omega];exact d
theorem KH (b:UInt8):dQ b=(eY b || bU b):=rfl
theorem Ik (l:Bs)(a:Nat)(w:World)(P:l.length≤100000000)(J:a < l.length)(L:eY (gt l a)=true) :
  Calls Tryz.prog 216 #[.string (aU l),.int .i64 a] w fun e j=>e=.returned (nO (l.drop a) a)∧Below w.heap.size w j:=by
 have x:=O (show ¬ (l.drop a).length=0 by simp;omega);have y:=O (show eY (gt (l.drop a) 0)=true by rw [tu];exact L);go_in
 go_wp2_with (first
  | (go_at_call 222;refine (oP _ _).mono ?_;rintro e j ⟨rfl,rfl⟩))
 go_loop [5] (fun i=>∃ k:Nat,a≤k∧k≤l.length∧i=.int .i64 k∧∀ c ∈ (l.drop a).take (k - a),dQ c=true) (fun i=>l.length - (intOf i).toNat)
 case atStart=>exact⟨a,aiv _,by omega,rfl,by simp⟩
 case round =>
  obtain⟨k,n,D,rfl,d⟩:=hrel;have F:=O d;clear d;by_cases b:k < l.length∧dQ (gt l k)=true
  ·obtain⟨b,u⟩:=b;have H:=O u;by_cases h1:eY (gt l k)=true
   case' neg=>have A:eY (gt l k)=false:=by simpa using h1
   case' neg=>have h2:bU (gt l k)=true:=by rw [KH,A] at u;simpa using u
   all_goals
    clear u
    go_wp2_with (first
     | (go_at_call 222;refine (oP _ _).mono ?_;rintro e j ⟨rfl,rfl⟩)
     | (go_at_call 223;refine (nu _ _).mono ?_;rintro e j ⟨rfl,rfl⟩))
    exact⟨⟨k+1,by omega,by omega,by go_num,V8 _ _ _ _ n b F.o H.o⟩,by simp [intOf];omega⟩
  ·have E:bQ dQ (l.drop a)=k - a:=by
    refine Lp _ _ _ _ n D F.o ?_;rcases Nat.lt_or_ge k l.length with h | h
    ·exact .inr ⟨h,by simpa using fun g=>b ⟨h,g⟩⟩
    ·exact .inl (by omega)
   have K:(k < l.length∧eY (gt l k)=false∧bU (gt l k)=false)∨¬ k < l.length:=by
    rcases Nat.lt_or_ge k l.length with h | h
    ·have:dQ (gt l k)=false:=by simpa using fun g=>b ⟨h,g⟩
     exact .inl ⟨h,by simpa [KH] using this⟩
    ·exact .inr (by omega)
   have C:(hasB keywords ((l.take k).drop a)=true∧first (l.drop a)=(3,(l.take k).drop a)) ∨
     (hasB keywords ((l.take k).drop a)=false∧k - a≤12∧first (l.drop a)=(1,(l.take k).drop a)) ∨
     (hasB keywords ((l.take k).drop a)=false∧12 < k - a∧first (l.drop a)=(0,[])):=by
    have e:(l.take k).drop a=(l.drop a).take (bQ dQ (l.drop a)):=by rw [E,List.drop_take]
    rw [e,← E];by_cases f:hasB keywords ((l.drop a).take (bQ dQ (l.drop a)))=true
    ·exact .inl ⟨f,qJ _ x.o y.o f⟩
    ·have q:hasB keywords ((l.drop a).take (bQ dQ (l.drop a)))=false:=by simpa using f
     by_cases r:bQ dQ (l.drop a)≤12
     ·exact .inr (.inl ⟨q,r,lW _ x.o y.o f r⟩)
     ·exact .inr (.inr ⟨q,by omega,oI _ x.o y.o f r⟩)
   clear b E;rcases K with ⟨b,M,N⟩ | b <;> rcases C with ⟨f,t⟩ | ⟨f,r,t⟩ | ⟨f,r,t⟩
   all_goals
    have G:=O t;clear t;have m:=heap_alloc_new (w.alloc (Obj.cells #[Value.int IntKind.u8 0,Value.string { data:=#[] },Value.int IntKind.i64 0] 131)) (.cells (iR keywords) 9);rw [World.size_alloc] at m
    have I:=O m;clear m
    go_wp2_with (first
     | (go_at_call 222;refine (oP _ _).mono ?_;rintro e j ⟨rfl,rfl⟩)
     | (go_at_call 223;refine (nu _ _).mono ?_;rintro e j ⟨rfl,rfl⟩)
     | (go_at_call 225;refine (ER _).mono ?_;rintro e j ⟨rfl,rfl⟩)
     | (go_at_call 224;refine (aaE keywords _ _ _ _ _ _ _ I.o (by decide) rfl).mono ?_;rintro e j ⟨rfl,rfl⟩))
    refine bodyPost_ret (v:=nO (l.drop a) a) ?_ rfl ⟨rfl,((Below.refl _ _).alloc (aiv _) _).alloc (by simp) _⟩;simp only [nO,G.o];simp [results,Tryz.results216,go_sem]
    rfl
theorem Ij (l:Bs)(a:Nat)(w:World)(N:l.length≤100000000)(I:a < l.length)(L:eY (gt l a)=false)(hd:bU (gt l a)=true) :
  Calls Tryz.prog 216 #[.string (aU l),.int .i64 a] w fun e r=>e=.returned (nO (l.drop a) a)∧Below w.heap.size w r:=by
 have t:=O (show ¬ (l.drop a).length=0 by simp;omega);have x:=O (show ¬ eY (gt (l.drop a) 0)=true by rw [tu,L];decide);have u:=O (show bU (gt (l.drop a) 0)=true by rw [tu];exact hd);go_in
 go_wp2_with (first
  | (go_at_call 222;refine (oP _ _).mono ?_;rintro e r ⟨rfl,rfl⟩)
  | (go_at_call 223;refine (nu _ _).mono ?_;rintro e r ⟨rfl,rfl⟩))
 go_loop [5] (fun i=>∃ k:Nat,a≤k∧k≤l.length∧i=.int .i64 k∧∀ c ∈ (l.drop a).take (k - a),bU c=true) (fun i=>l.length - (intOf i).toNat)
 case atStart=>exact⟨a,aiv _,by omega,rfl,by simp⟩
 case round =>
  obtain⟨k,n,D,rfl,f⟩:=hrel;have F:=O f;clear f;by_cases b:k < l.length∧bU (gt l k)=true
  ·obtain⟨b,K⟩:=b;go_wp2_with (go_at_call 223;refine (nu _ _).mono ?_;rintro e r ⟨rfl,rfl⟩)
   exact⟨⟨k+1,by omega,by omega,by go_num,V8 _ _ _ _ n b F.o K⟩,by simp [intOf];omega⟩
  ·have E:bQ bU (l.drop a)=k - a:=by
    refine Lp _ _ _ _ n D F.o ?_;rcases Nat.lt_or_ge k l.length with h | h
    ·exact .inr ⟨h,by simpa using fun g=>b ⟨h,g⟩⟩
    ·exact .inl (by omega)
   have C:a < k:=by
    rcases Nat.lt_or_ge a k with h | h
    ·exact h
    ·have e:k=a:=by omega
     exact absurd ⟨by omega,by rw [e];exact hd⟩ b
   have J:(k < l.length∧bU (gt l k)=false)∨¬ k < l.length:=by
    rcases Nat.lt_or_ge k l.length with h | h
    ·exact .inl ⟨h,by simpa using fun g=>b ⟨h,g⟩⟩
    ·exact .inr (by omega)
   have m:gt ((l.take k).drop a) 0=gt l a:=by rw [BJ,Nat.add_zero,aat _ _ _ C]
   have A:(((k - a:Nat):Int) == 1)=true∧first (l.drop a)=(2,(l.take k).drop a) ∨
     ((((k - a:Nat):Int) == 1)=false∧k - a≤4∧(((gt l a).toNat:Int) != 48)=true∧first (l.drop a)=(2,(l.take k).drop a)) ∨
     ((((k - a:Nat):Int) == 1)=false∧k - a≤4∧(((gt l a).toNat:Int) != 48)=false∧first (l.drop a)=(0,[])) ∨
     ((((k - a:Nat):Int) == 1)=false∧4 < k - a∧first (l.drop a)=(0,[])):=by
    have e:(l.take k).drop a=(l.drop a).take (bQ bU (l.drop a)):=by rw [E,List.drop_take]
    have en:=Ay ((l.take k).drop a);rw [m,e] at en
    have H:((l.drop a).take (bQ bU (l.drop a))).length=k - a:=by rw [E];simp;omega
    rw [H] at en
    rw [e];by_cases h1:k - a=1
    ·refine .inl ⟨by simp [h1],l6 _ t.o x.o u.o (by rw [en];simp [h1])⟩
    ·have j:(((k - a:Nat):Int) == 1)=false:=by simp;omega
     by_cases h4:k - a≤4
     ·by_cases h48:(((gt l a).toNat:Int) != 48)=true
      ·exact .inr (.inl ⟨j,h4,h48,l6 _ t.o x.o u.o (by rw [en,h48];simp [h4])⟩)
      ·have d:(((gt l a).toNat:Int) != 48)=false:=by simpa using h48
       exact .inr (.inr (.inl ⟨j,h4,d,lZ _ t.o x.o u.o (by rw [en,d];simp [h1])⟩))
     ·exact .inr (.inr (.inr ⟨j,by omega,lZ _ t.o x.o u.o (by rw [en];simp;omega)⟩))
   have y:=O m;clear m;clear b E;rcases J with ⟨b,M⟩ | b <;> rcases A with ⟨h1,q⟩ | ⟨h1,h4,h48,q⟩ | ⟨h1,h4,h48,q⟩ | ⟨h1,h4,q⟩
   all_goals
    have G:=O q;clear q;have P:=y.o
    go_wp2_with (first
     | (go_at_call 223;refine (nu _ _).mono ?_;rintro e r ⟨rfl,rfl⟩))
    refine bodyPost_ret (v:=nO (l.drop a) a) ?_ rfl ⟨rfl,((Below.refl _ _).alloc (aiv _) _)⟩;simp only [nO,G.o];simp [results,Tryz.results216,go_sem]
    rfl
theorem OI (l:Bs)(a:Nat)(w:World)(c:l.length≤100000000)(d:a=l.length) :
  Calls Tryz.prog 216 #[.string (aU l),.int .i64 a] w fun e g=>e=.returned (nO (l.drop a) a)∧Below w.heap.size w g:=by
 have f:l.length≤a:=by omega
 have b:=O (nK (l.drop a) (by simp;omega));clear d;go_in
 go_wp2;refine bodyPost_ret (v:=nO (l.drop a) a) ?_ rfl ⟨rfl,((Below.refl _ _).alloc (aiv _) _)⟩;simp only [nO,b.o];simp [results,Tryz.results216,go_sem]
 rfl
theorem jJ {B:Nat}{a w:World}(h:Below B a w)(n:Nat):Below B a (w.drewN n):=h.trans ⟨rfl,rfl,rfl,aiv _,fun _ _=>rfl⟩
theorem Yt (g l:Bs)(a:Nat):qQ g (l.drop a)=(decide (a+g.length≤max a l.length) && ((l.take (a+g.length)).drop a == g)):=by
 rw [aiu,qQ,List.isPrefixOf_iff_prefix,List.prefix_iff_eq_take,List.drop_take];simp only [Nat.add_sub_cancel_left,aiE,decide_eq_true_eq,beq_iff_eq];constructor
 ·intro h
  refine⟨?_,h.symm⟩
  have:=congrArg List.length h
  simp at this
  omega
 ·exact fun h=>h.2.symm
theorem KY (l:Bs)(a:Nat)(w:World)(J:l.length≤100000000)(F:a < l.length)(G:eY (gt l a)=false)(hd:bU (gt l a)=false) :
  Calls Tryz.prog 216 #[.string (aU l),.int .i64 a] w fun e r=>e=.returned (nO (l.drop a) a)∧Below w.heap.size w r:=by
 have y:=O (show ¬ (l.drop a).length=0 by simp;omega);have C:=O (show ¬ eY (gt (l.drop a) 0)=true by rw [tu,G];decide);have A:=O (show ¬ bU (gt (l.drop a) 0)=true by rw [tu,hd];decide);have d:=heap_alloc_new (w.alloc (Obj.cells #[Value.int IntKind.u8 0,Value.string { data:=#[] },Value.int IntKind.i64 0] 131)) (.cells (iR signs) 9);rw [World.size_alloc] at d
 have E:=O d;clear d;go_in
 go_wp2_with (first
  | (go_at_call 222;refine (oP _ _).mono ?_;rintro e r ⟨rfl,rfl⟩)
  | (go_at_call 223;refine (nu _ _).mono ?_;rintro e r ⟨rfl,rfl⟩)
  | (go_at_call 226;refine (OL _).mono ?_;rintro e r ⟨rfl,rfl⟩))
 go_loopw [9] (fun i wr=>∃ n q:Nat,n≤23∧i=.int .i64 n∧vJ (l.drop a) n∧wr=((w.alloc (Obj.cells #[Value.int IntKind.u8 0,Value.string { data:=#[] },Value.int IntKind.i64 0] 131)).alloc (.cells (iR signs) 9)).drewN q) (fun i _=>23 - (intOf i).toNat)
 case atStart=>exact⟨0,0,aix _,rfl,AA _,rfl⟩
 case round =>
  obtain⟨n,q,K,rfl,j,rfl⟩:=hrel;have k:=O j;clear j;by_cases b:n < 23
  ·have I:=Cc E.o n (show n < signs.length from b);have c:=Yt (sg signs n) l a
   have H:(sg signs n).length≤2:=by
    have:∀ g ∈ signs,g.length≤2:=by decide
    refine this _ ?_;rw [K_ _ _ (show n < signs.length from b)];exact List.getElem_mem _
   by_cases D:a+(sg signs n).length≤l.length
   ·have x:(a:Int)+((sg signs n).length:Int)≤(l.length:Int):=by omega
    have h:max a l.length=l.length:=by omega
    rw [h] at c
    rw [aiG D,Bool.true_and] at c
    have m:=O c;clear c;clear h;go_wp2;have L:((a:Int)+((sg signs n).length:Int)).toNat=a+(sg signs n).length:=by omega
    have h00:0≤(a:Int)+((sg signs n).length:Int):=by omega
    have f:IntKind.i64.wrap ((a:Int)+((sg signs n).length:Int))=(a:Int)+((sg signs n).length:Int):=IntWalk.i64_in _ (by omega);go_quiet (fail)
    clear f;go_wp2
    ·have u:((l.take (a+(sg signs n).length)).drop a == sg signs n)=true:=by assumption
     have t:=O (oK _ y.o C.o A.o _ (Eb (l.drop a) n b k.o (by rw [m.o];exact u)));refine bodyPost_ret (v:=nO (l.drop a) a) ?_ rfl ⟨rfl,by (go_grown;exact jJ (by go_grown) _)⟩;simp only [nO,t.o];simp [results,Tryz.results216,go_sem]
     rfl
    ·have u:((l.take (a+(sg signs n).length)).drop a == sg signs n)=false:=by assumption
     exact⟨⟨n+1,_,by omega,by go_num,tO _ n b k.o (by rw [m.o];exact u),rfl⟩,by simp [intOf];omega⟩
   ·have x:(decide ((a:Int)+((sg signs n).length:Int)≤(l.length:Int)))=false:=by simp;omega
    have h:max a l.length=l.length:=by omega
    rw [h] at c
    rw [aiH D,Bool.false_and] at c
    have m:=O c;clear c;clear h;go_wp2;have f:IntKind.i64.wrap ((a:Int)+((sg signs n).length:Int))=(a:Int)+((sg signs n).length:Int):=IntWalk.i64_in _ (by omega);go_quiet (fail)
    clear f;go_wp2;exact⟨⟨n+1,_,by omega,by go_num,tO _ n b k.o m.o,rfl⟩,by simp [intOf];omega⟩
  ·have e:n=23:=by omega
   have t:=O (oJ _ y.o C.o A.o (AX (l.drop a) (e ▸ k.o)));clear e;go_wp2;refine bodyPost_ret (v:=nO (l.drop a) a) ?_ rfl ⟨rfl,by (go_grown;exact jJ (by go_grown) _)⟩;simp only [nO,t.o];simp [results,Tryz.results216,go_sem]
   rfl
theorem OH (l:Bs)(a:Nat)(w:World)(b:l.length≤100000000)(f:a≤l.length) :
  Calls Tryz.prog 216 #[.string (aU l),.int .i64 a] w fun e d=>e=.returned (nO (l.drop a) a)∧Below w.heap.size w d:=by
 rcases Nat.lt_or_ge a l.length with h | h
 ·cases c:eY (gt l a)
  ·cases hd:bU (gt l a)
   ·exact KY l a w b h c hd
   ·exact Ij l a w b h c hd
  ·exact Ik l a w b h c
 ·exact OI l a w b (by omega)
end
section
open Go.RowKit Mist
attribute [local go_sem] au aN aV aM aG
def fat (l:Bs)(a:Nat):Int:=if (first l).1=0 then 0 else a
theorem Y5 (l:Bs)(a:Nat):nO l a=.agg #[.int .u8 (first l).1,.string (aU (first l).2),.int .i64 (fat l a)]:=by
 unfold nO fat Pj;by_cases h:(first l).1=0
 ·rw [if_pos h,if_pos h,Ns l h,h]
 ·rw [if_neg h,if_neg h]
theorem KZ (l:Bs)(w:World)(b:l.length≤100000000) :
  Calls Tryz.prog 216 #[.string (aU l),.int .i64 0] w fun e a =>
   e=.returned (.agg #[.int .u8 (first l).1,.string (aU (first l).2),.int .i64 0])∧Below w.heap.size w a :=
 (OH l 0 w b (aix _)).mono fun e a h=>⟨by rw [h.1,Y5,List.drop_zero];simp [fat],h.2⟩
theorem KW {l:Bs}{a b:Int}(c:a=kind l)(d:b=ig l):Ending.returned (.tuple #[.int .u8 a,.int .i64 b])=.returned (.tuple #[.int .u8 (kind l),.int .i64 (ig l)]):=by
 rw [c,d]
theorem Dx (l:Bs):((((first l).1:Int) == 0)=true∧kind l=0∧ig l=4)∨((((first l).1:Int) == 0)=false∧((first l).2 == l)=false∧kind l=0∧ig l=4) ∨
  ((((first l).1:Int) == 0)=false∧((first l).2 == l)=true∧kind l=(first l).1∧ig l=0):=by
 by_cases h:(first l).1=0
 ·have:kind l=0:=by unfold kind;rw [h];simp
  exact .inl ⟨by simp [h],this,by simp [ig,this]⟩
 ·by_cases g:(first l).2=l
  ·have:kind l=(first l).1:=by unfold kind;rw [if_pos g]
   exact .inr (.inr ⟨by simp;omega,by simp [g],this,by simp [ig,this,h]⟩)
  ·have:kind l=0:=by unfold kind;rw [if_neg g]
   exact .inr (.inl ⟨by simp;omega,by simp [g],this,by simp [ig,this]⟩)
theorem xA (l:Bs)(w:World)(c:Env w)(h:l.length≤100000000) :
  Calls Tryz.prog 187 #[.string (aU l)] w fun e d=>e=.returned (.tuple #[.int .u8 (kind l),.int .i64 (ig l)])∧Below w.heap.size w d:=by
 have f:=O c;clear c;rcases Dx l with ⟨h1,a⟩ | ⟨h1,h2,a⟩ | ⟨h1,h2,a⟩
 all_goals
  have b:=O a;clear a;go_in
  go_wp2_with (go_at_call 95;refine (t_ l _ f.o h).mono ?_;rintro e d ⟨rfl,g⟩)
  go_ret2
  exact⟨KW (by simp [b.o.1]) (by simp [b.o.2]),g⟩
theorem Ua (l:Bs)(w:World)(g:l.length≤100000000) :
  Calls Tryz.prog 206 #[.string (aU l)] w fun e f=>e=.returned (.tuple #[.int .u8 (kind l),.int .i64 (ig l)])∧Below w.heap.size w f:=by
 rcases Dx l with ⟨h1,b⟩ | ⟨h1,h2,b⟩ | ⟨h1,h2,b⟩
 case' inl=>have a:(((first l).1:Int) != 0)=false:=by simpa using h1
 case' inr.inl=>have a:(((first l).1:Int) != 0)=true:=by simpa using h1
 case' inr.inr=>have a:(((first l).1:Int) != 0)=true:=by simpa using h1
 all_goals
  have c:=O b;clear b;go_in
  go_wp2_with (go_at_call 216;refine (KZ l _ g).mono ?_;rintro e f ⟨rfl,d⟩)
  go_ret2
  exact⟨KW (by simp [c.o.1]) (by simp [c.o.2]),d.alloc d.size _⟩
theorem Oe (l:Bs):((ig l:Int) == 0)=!((kind l:Int) == 0):=by
 rw [aiu];unfold ig;split <;> simp_all
theorem xq (l:Bs):(((ig l:Int) == 0)=true∧isName l=((kind l:Int) == 1))∨(((ig l:Int) == 0)=false∧isName l=false):=by
 rw [Oe];by_cases h:kind l=0
 ·exact .inr ⟨by simp [h],by simp [isName,h]⟩
 ·refine .inl ⟨by simp [h],?_⟩;rw [aiu,isName];simp;omega
theorem Du (l:Bs)(w:World)(b:Env w)(h:l.length≤100000000) :
  Calls Tryz.prog 159 #[.string (aU l)] w fun e c=>e=.returned (.bool (isName l))∧Below w.heap.size w c:=by
 have d:=O b;clear b;rcases xq l with ⟨h1,a⟩ | ⟨h1,a⟩
 all_goals
  have f:=O a;clear a;go_in
  go_wp2_with (go_at_call 187;refine (xA l _ d.o h).mono ?_;rintro e c ⟨rfl,g⟩)
  go_ret;exact⟨bD f.o.symm,g⟩
theorem K4 (l:Bs)(w:World)(f:l.length≤100000000) :
  Calls Tryz.prog 175 #[.string (aU l)] w fun e b=>e=.returned (.bool (isName l))∧Below w.heap.size w b:=by
 rcases xq l with ⟨h1,a⟩ | ⟨h1,a⟩
 all_goals
  have c:=O a;clear a;go_in
  go_wp2_with (go_at_call 206;refine (Ua l _ f).mono ?_;rintro e b ⟨rfl,d⟩)
  go_ret;exact⟨bD c.o.symm,d⟩
end
