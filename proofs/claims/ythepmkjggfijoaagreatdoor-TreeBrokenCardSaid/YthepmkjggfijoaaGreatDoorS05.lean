/-
  A part of the proof.
-/
import Derived.Test.YthepmkjggfijoaaGreatDoorSA
import Derived.WalkKit
import Derived.WalkSpells
import Derived.WalkLawsBesides
import Derived.Handy
import Derived.Lib.Hide
import Derived.Lib.AppendIntMem
import Derived.Lib.SmallJoins
import Derived.Test.YthepmkjggfijoaaGreatDoorProg
import Derived.Test.YthepmkjggfijoaaGreatDoorShelf
import Derived.Test.YthepmkjggfijoaaGreatDoorS01
set_option linter.all false
set_option maxRecDepth 100000
set_option maxHeartbeats 1000000
namespace Go.Proofs.YthepmkjggfijoaaGreatDoor
open Go.RowKit Mist
attribute [local go_sem] aj aH aS aB
theorem qp {k:IntKind}{a b:Int}(h:a=b):Ending.returned (.int k a)=.returned (.int k b):=by rw [h]
theorem bD {a b:Bool}(h:a=b):Ending.returned (.bool a)=.returned (.bool b):=by rw [h]
theorem Xf (b:UInt8)(w:World) :
  Calls Tryz.prog 123 #[.int .u8 b.toNat] w fun e a=>e=.returned (.bool (gV b))∧w=a:=by
 go_in
 go_wp2
 all_goals
  go_ret
  refine⟨bD ?_,rfl⟩
  rw [aaI];simp [gV,UInt8.le_iff_toNat_le,← UInt8.toNat_inj] <;> omega
theorem gap_any (b:UInt8)(w:World) :
  Calls Tryz.prog 124 #[.int .u8 b.toNat] w fun e a=>e=.returned (.bool (pR b))∧w=a:=by
 go_in
 go_wp2
 all_goals
  go_ret
  refine⟨bD ?_,rfl⟩
  rw [aaI];simp [pR,← UInt8.toNat_inj] <;> omega
theorem Si (b:UInt8)(w:World) :
  Calls Tryz.prog 126 #[.int .u8 b.toNat] w fun e a=>e=.returned (.bool (lK b))∧w=a:=by
 go_in
 go_wp2
 all_goals
  go_ret
  refine⟨bD ?_,rfl⟩
  rw [aaI];simp [lK,← UInt8.toNat_inj] <;> omega
theorem zh (b:UInt8)(w:World) :
  Calls Tryz.prog 127 #[.int .u8 b.toNat] w fun e a=>e=.returned (.bool (dP b))∧w=a:=by
 go_in
 go_wp2
 all_goals
  go_ret
  refine⟨bD ?_,rfl⟩
  rw [aaI];simp [dP,UInt8.le_iff_toNat_le] <;> omega
theorem DX (b:UInt8)(w:World) :
  Calls Tryz.prog 131 #[.int .u8 b.toNat] w fun e a=>e=.returned (.bool (aQ b))∧w=a:=by
 go_in
 go_wp2
 all_goals
  go_ret
  refine⟨bD ?_,rfl⟩
  rw [aaI];simp [aQ,UInt8.le_iff_toNat_le] <;> omega
theorem part_any (b:UInt8)(w:World) :
  Calls Tryz.prog 128 #[.int .u8 b.toNat] w fun e a=>e=.returned (.bool (dI b))∧w=a:=by
 go_in
 go_wp2
 all_goals
  go_ret
  refine⟨bD ?_,rfl⟩
  rw [aaI];simp [dI,dP,aQ,UInt8.le_iff_toNat_le] <;> omega
theorem sO (b:UInt8)(w:World) :
  Calls Tryz.prog 141 #[.int .u8 b.toNat] w fun e a=>e=.returned (.bool (dP b))∧w=a:=by
 go_in
 go_wp2
 all_goals
  go_ret
  refine⟨bD ?_,rfl⟩
  rw [aaI];simp [dP,UInt8.le_iff_toNat_le] <;> omega
theorem qg (b:UInt8)(w:World) :
  Calls Tryz.prog 142 #[.int .u8 b.toNat] w fun e a=>e=.returned (.bool (aQ b))∧w=a:=by
 go_in
 go_wp2
 all_goals
  go_ret
  refine⟨bD ?_,rfl⟩
  rw [aaI];simp [aQ,UInt8.le_iff_toNat_le] <;> omega
theorem tF (p:UInt8→Bool)(l:Bs)(n:Nat)(h:n≤l.length)(a:∀ c ∈ l.take n,p c=true)(b:n=l.length∨n < l.length∧p (gt l n)=false):aV p l=n:=by
 unfold aV;have h1:l=l.take n ++ l.drop n:=(List.take_append_drop n l).symm;rw [h1,List.takeWhile_append_of_pos a]
 have h2:(l.drop n).takeWhile p=[]:=by
  rcases b with rfl | ⟨e,d⟩
  ·simp
  ·rw [nQ l n e,List.takeWhile_cons,d];rfl
 rw [h2];simp;omega
theorem sw (p:UInt8→Bool)(l:Bs)(n:Nat)(h:n < l.length)(a:∀ c ∈ l.take n,p c=true)(d:p (gt l n)=true):∀ c ∈ l.take (n+1),p c=true:=by
 rw [take_gt l n h];simp only [List.mem_append,List.mem_singleton];rintro c (b | rfl)
 ·exact a c b
 ·exact d
theorem Jd (l:Bs)(w:World)(j:l.length≤100000000) :
  Calls Tryz.prog 125 #[.string (aM l),.func (.func 128) #[] #[]] w fun e h=>e=.returned (.int .i64 (aV dI l))∧w=h:=by
 go_in
 go_wp2;go_loop [5] (fun i=>∃ n:Nat,n≤l.length∧i=.int .i64 n∧(∀ c ∈ l.take n,dI c=true)) (fun i=>l.length - (intOf i).toNat)
 case atStart=>exact⟨0,aaL _,rfl,by simp⟩
 case round =>
  obtain⟨n,g,rfl,a⟩:=hrel;have d:=O a;clear a;by_cases b:n < l.length
  ·go_wp2_with (go_at_call 128;refine (part_any _ _).mono ?_;rintro e h ⟨rfl,rfl⟩)
   ·have f:dI (gt l n)=true:=by assumption
    exact⟨⟨n+1,by omega,by go_num,sw _ _ _ b d.o f⟩,by simp [intOf];omega⟩
   ·have f:dI (gt l n)=false:=by assumption
    go_ret;exact⟨qp (by rw [tF _ _ _ g d.o (.inr ⟨b,f⟩)]),rfl⟩
  ·go_wp2;go_ret;exact⟨qp (by rw [tF _ _ _ g d.o (.inl (by omega))]),rfl⟩
theorem Qg (l:Bs)(w:World)(j:l.length≤100000000) :
  Calls Tryz.prog 125 #[.string (aM l),.func (.func 131) #[] #[]] w fun e h=>e=.returned (.int .i64 (aV aQ l))∧w=h:=by
 go_in
 go_wp2;go_loop [5] (fun i=>∃ n:Nat,n≤l.length∧i=.int .i64 n∧(∀ c ∈ l.take n,aQ c=true)) (fun i=>l.length - (intOf i).toNat)
 case atStart=>exact⟨0,aaL _,rfl,by simp⟩
 case round =>
  obtain⟨n,g,rfl,a⟩:=hrel;have d:=O a;clear a;by_cases b:n < l.length
  ·go_wp2_with (go_at_call 131;refine (DX _ _).mono ?_;rintro e h ⟨rfl,rfl⟩)
   ·have f:aQ (gt l n)=true:=by assumption
    exact⟨⟨n+1,by omega,by go_num,sw _ _ _ b d.o f⟩,by simp [intOf];omega⟩
   ·have f:aQ (gt l n)=false:=by assumption
    go_ret;exact⟨qp (by rw [tF _ _ _ g d.o (.inr ⟨b,f⟩)]),rfl⟩
  ·go_wp2;go_ret;exact⟨qp (by rw [tF _ _ _ g d.o (.inl (by omega))]),rfl⟩
theorem Nf (l:Bs)(w:World)(j:l.length≤100000000) :
  Calls Tryz.prog 125 #[.string (aM l),.func (.func 126) #[] #[]] w fun e h=>e=.returned (.int .i64 (aV lK l))∧w=h:=by
 go_in
 go_wp2;go_loop [5] (fun i=>∃ n:Nat,n≤l.length∧i=.int .i64 n∧(∀ c ∈ l.take n,lK c=true)) (fun i=>l.length - (intOf i).toNat)
 case atStart=>exact⟨0,aaL _,rfl,by simp⟩
 case round =>
  obtain⟨n,g,rfl,a⟩:=hrel;have d:=O a;clear a;by_cases b:n < l.length
  ·go_wp2_with (go_at_call 126;refine (Si _ _).mono ?_;rintro e h ⟨rfl,rfl⟩)
   ·have f:lK (gt l n)=true:=by assumption
    exact⟨⟨n+1,by omega,by go_num,sw _ _ _ b d.o f⟩,by simp [intOf];omega⟩
   ·have f:lK (gt l n)=false:=by assumption
    go_ret;exact⟨qp (by rw [tF _ _ _ g d.o (.inr ⟨b,f⟩)]),rfl⟩
  ·go_wp2;go_ret;exact⟨qp (by rw [tF _ _ _ g d.o (.inl (by omega))]),rfl⟩
theorem qh {s:Bs}{a b:Nat}{x y:Int}(h:check s=(a,b))(c:x=a)(hy:y=b):Ending.returned (.tuple #[.int .i64 x,.int .i64 y])=.returned (.tuple #[.int .i64 (check s).1,.int .i64 (check s).2]):=by
 subst c;subst hy;rw [h]
theorem PV (p:UInt8→Bool)(l:Bs)(n:Nat)(h:l.length≤n)(a:∀ c ∈ l.take n,p c=true):∀ c ∈ l,p c=true:=by
 rwa [aaN h] at a
theorem Qa {b:UInt8}{k:Nat}(a:k < 256)(e:(b.toNat:Int)=k):b=UInt8.ofNat k:=by
 apply UInt8.toNat_inj.1
 rw [UInt8.toNat_ofNat'];omega
theorem P_ {b:UInt8}{k:Nat}(a:k < 256)(e:¬ (b.toNat:Int)=k):b ≠ UInt8.ofNat k:=by
 intro g;apply e
 rw [g,UInt8.toNat_ofNat'];omega
theorem beq_u8 {b:UInt8}{k:Int}(h:((b.toNat:Int) == k)=true):(b.toNat:Int)=k:=beq_iff_eq.1 h
theorem bne_u8 {b:UInt8}{k:Int}(h:((b.toNat:Int) == k)=false):¬ (b.toNat:Int)=k:=by simpa using h
theorem J7 (l:Bs)(w:World)(h:l.length≤100000000) :
  Calls Tryz.prog 89 #[.string (aM l)] w fun e g=>e=.returned (.tuple #[.int .i64 (check l).1,.int .i64 (check l).2])∧w=g:=by
 by_cases h2:2000 < l.length
 ·go_in
  go_wp2;go_ret2
  exact⟨qh (GI l h2) rfl rfl,rfl⟩
 ·have h2:l.length≤2000:=Nat.le_of_not_lt h2;go_in
  go_wp2;go_loop [10] (fun i=>∃ n:Nat,n≤l.length∧i=.int .i64 n∧(∀ c ∈ l.take n,gV c=true)) (fun i=>l.length - (intOf i).toNat)
  case atStart=>exact⟨0,aaL _,rfl,by simp⟩
  case round =>
   obtain⟨n,j,rfl,a⟩:=hrel;have d:=O a;clear a;by_cases b:n < l.length
   ·go_wp2_with (go_at_call 123;refine (Xf _ _).mono ?_;rintro e g ⟨rfl,rfl⟩)
    ·have f:gV (gt l n)=false:=by simpa using (by assumption:(!gV (gt l n))=true)
     go_ret2
     exact⟨qh (DU l n h2 b d.o f) rfl rfl,rfl⟩
    ·have f:gV (gt l n)=true:=by simpa using (by assumption:(!gV (gt l n))=false)
     exact⟨⟨n+1,by omega,by go_num,sw _ _ _ b d.o f⟩,by simp [intOf];omega⟩
   ·go_wp2;go_ret2
    exact⟨qh (BR l h2 (PV _ _ _ (by omega) d.o)) rfl rfl,rfl⟩
theorem KZ {b:UInt8}(h:(b.toNat:Int)=10∨(32≤(b.toNat:Int)∧(b.toNat:Int)≤126)):gV b=true:=by
 simp [gV,UInt8.le_iff_toNat_le,← UInt8.toNat_inj];omega
theorem Qc {b:UInt8}(h:¬ (b.toNat:Int)=10)(g:(b.toNat:Int) < 32∨126 < (b.toNat:Int)):gV b=false:=by
 simp [gV,UInt8.le_iff_toNat_le,← UInt8.toNat_inj];omega
theorem IE (l:Bs)(w:World)(j:l.length≤100000000) :
  Calls Tryz.prog 98 #[.string (aM l)] w fun e h=>e=.returned (.tuple #[.int .i64 (check l).1,.int .i64 (check l).2])∧w=h:=by
 by_cases h2:2000 < l.length
 ·go_in
  go_wp2;go_ret2
  exact⟨qh (GI l h2) rfl rfl,rfl⟩
 ·have h2:l.length≤2000:=Nat.le_of_not_lt h2;go_in
  go_wp2;go_loop [4] (fun i=>∃ n:Nat,n≤l.length∧i=.int .i64 n∧(∀ c ∈ l.take n,gV c=true)) (fun i=>l.length - (intOf i).toNat)
  case atStart=>exact⟨0,aaL _,rfl,by simp⟩
  case round =>
   obtain⟨n,k,rfl,b⟩:=hrel;have d:=O b;clear b;by_cases a:n < l.length
   ·by_cases h10:((gt l n).toNat:Int)=10
    ·have g:(((gt l n).toNat:Int) != 10)=false:=by simp [h10]
     have f:=O h10;clear h10;go_wp2;exact⟨⟨n+1,by omega,by go_num,sw _ _ _ a d.o (KZ (.inl f.o))⟩,by simp [intOf];omega⟩
    ·have g:(((gt l n).toNat:Int) != 10)=true:=by simp [h10]
     by_cases h32:((gt l n).toNat:Int) < 32
     ·go_wp2;go_ret2
      exact⟨qh (DU l n h2 a d.o (Qc h10 (.inl h32))) rfl rfl,rfl⟩
     ·by_cases h126:126 < ((gt l n).toNat:Int)
      ·go_wp2;go_ret2
       exact⟨qh (DU l n h2 a d.o (Qc h10 (.inr h126))) rfl rfl,rfl⟩
      ·go_wp2;exact⟨⟨n+1,by omega,by go_num,sw _ _ _ a d.o (KZ (.inr (by omega)))⟩,by simp [intOf];omega⟩
   ·go_wp2;go_ret2
    exact⟨qh (BR l h2 (PV _ _ _ (by omega) d.o)) rfl rfl,rfl⟩
theorem PI (l:Bs)(w:World)(m:l.length≤100000000) :
  Calls Tryz.prog 90 #[.string (aM l)] w fun e g=>e=.returned (.int .i64 (skip l))∧w=g:=by
 go_in
 go_wp2;go_loop [3] (fun i=>∃ n:Nat,n≤l.length∧i=.int .i64 n∧skip l=n+skip (l.drop n)) (fun i=>l.length - (intOf i).toNat)
 case atStart=>exact⟨0,aaL _,rfl,by simp⟩
 case round =>
  obtain⟨n,q,rfl,b⟩:=hrel;have c:=O b;clear b;by_cases a:n < l.length
  ·have j:aV lK (l.drop n)≤l.length - n:=by have:=mR lK (l.drop n);simpa using this
   go_wp2_with (first
    | (go_at_call 124;refine (gap_any _ _).mono ?_;rintro e g ⟨rfl,rfl⟩)
    | (go_at_call 125;refine (Nf (l.drop n) _ (by simp;omega)).mono ?_;rintro e g ⟨rfl,rfl⟩))
   ·have f:pR (gt l n)=true:=by assumption
    exact⟨⟨n+1,by omega,by go_num,by have:=c.o;have:=I9 l n a f;omega⟩,by simp [intOf];omega⟩
   ·have d:gt l n=35:=Qa (k:=35) (by omega) (beq_u8 (by assumption));have h:=JH l n a d;exact⟨⟨n+aV lK (l.drop n),by omega,by go_num,by have:=c.o;have:=Xc l n a d;omega⟩,by simp [intOf];omega⟩
   ·have f:pR (gt l n)=false:=by assumption
    have d:gt l n ≠ 35:=P_ (k:=35) (by omega) (bne_u8 (by assumption));go_ret;exact⟨qp (by have:=c.o;have:=zf l n a f d;omega),rfl⟩
  ·go_wp2;go_ret;exact⟨qp (by have:=c.o;have:=PK l n (by omega);omega),rfl⟩
theorem Ko (l:Bs)(at_:Nat)(w:World)(Q:l.length≤100000000)(I:at_≤l.length) :
  Calls Tryz.prog 99 #[.string (aM l),.int .i64 at_] w fun e M=>e=.returned (.int .i64 ((at_:Int)+skip (l.drop at_)))∧w=M:=by
 go_in
 go_wp2;go_loop [1] (fun i=>∃ n:Nat,n≤l.length∧i=.int .i64 n∧at_+skip (l.drop at_)=n+skip (l.drop n)) (fun i=>l.length - (intOf i).toNat)
 case atStart=>exact⟨at_,I,rfl,rfl⟩
 case round =>
  obtain⟨n,J,rfl,y⟩:=hrel;have j:=O y;clear y;by_cases d:n < l.length
  ·by_cases h32:((gt l n).toNat:Int)=32
   ·have f:pR (gt l n)=true:=by rw [Qa (k:=32) (by omega) h32];rfl
    have r:=O f;clear f;go_wp2;exact⟨⟨n+1,by omega,by go_num,by have:=j.o;have:=I9 l n d r.o;omega⟩,by simp [intOf];omega⟩
   by_cases h10:((gt l n).toNat:Int)=10
   ·have f:pR (gt l n)=true:=by rw [Qa (k:=10) (by omega) h10];rfl
    have r:=O f;clear f;go_wp2;exact⟨⟨n+1,by omega,by go_num,by have:=j.o;have:=I9 l n d r.o;omega⟩,by simp [intOf];omega⟩
   have f:pR (gt l n)=false:=by
    have a:=P_ (k:=32) (by omega) h32;have b:=P_ (k:=10) (by omega) h10;simp [pR];exact⟨a,b⟩
   have r:=O f;clear f;have E:(((gt l n).toNat:Int) == 32)=false:=by simpa using h32
   have P:(((gt l n).toNat:Int) == 10)=false:=by simpa using h10
   by_cases q:((gt l n).toNat:Int)=35
   ·have t:gt l n=35:=Qa (k:=35) (by omega) q;have A:=O t;clear t;have D:(((gt l n).toNat:Int) != 35)=false:=by simp [q]
    have G:=O q;clear q;go_wp2;go_loop [1] (fun i=>∃ m:Nat,n≤m∧m≤l.length∧i=.int .i64 m∧(m=n→gt l n=35)∧n+skip (l.drop n)=m+gK true (l.drop m)) (fun i=>l.length - (intOf i).toNat)
    case atStart=>exact⟨n,aaJ _,J,rfl,fun _=>A.o,by rw [Tg l n d A.o]⟩
    case round =>
     obtain⟨m,L,F,rfl,v,u⟩:=hrel;have B:=O u;clear u;have H:=O v;clear v;by_cases x:m < l.length
     ·by_cases c:((gt l m).toNat:Int)=10
      ·have g:gt l m=10:=Qa (k:=10) (by omega) c
       have K:n < m:=by
        rcases Nat.lt_or_ge n m with h | h
        ·exact h
        ·have e:m=n:=by omega
         have:=H.o e
         rw [e] at g;rw [g] at this;exact absurd this (by decide)
       have D:(((gt l m).toNat:Int) != 10)=false:=by simp [c]
       have C:=O g;clear g;have N:=O c;clear c;go_wp2;exact⟨⟨m,F,rfl,by have:=j.o;have:=B.o;have:=Tf l m x C.o;omega⟩,by simp [intOf];omega⟩
      ·have g:gt l m ≠ 10:=P_ (k:=10) (by omega) c;have D:(((gt l m).toNat:Int) != 10)=true:=by simp [c]
       have C:=O g;clear g;go_wp2;exact⟨⟨m+1,by omega,by omega,by go_num,fun h=>by omega,by have:=B.o;have:=Ti l m x C.o;omega⟩,by simp [intOf];omega⟩
     ·go_wp2;exact⟨⟨m,F,rfl,by have:=j.o;have:=B.o;have:=Xb l m (by omega);omega⟩,by simp [intOf];omega⟩
   ·have D:(((gt l n).toNat:Int) != 35)=true:=by simp [q]
    have t:gt l n ≠ 35:=P_ (k:=35) (by omega) q;have A:=O t;clear t;go_wp2;go_ret;exact⟨qp (by have:=j.o;have:=zf l n d r.o A.o;omega),rfl⟩
  ·go_wp2;go_ret;exact⟨qp (by have:=j.o;have:=PK l n (by omega);omega),rfl⟩
theorem EH (l:Bs):g_ l=(decide (l.length≤4) && (l.length == 1 || ((gt l 0).toNat:Int) != 48)):=by
 have:(gt l 0 != 48)=(((gt l 0).toNat:Int) != 48):=by
  rw [aaI];simp [← UInt8.toNat_inj]
  omega
 rw [g_,this]
theorem Mq (l:Bs)(w:World)(d:l.length≤100000000)(h0:0 < l.length) :
  Calls Tryz.prog 132 #[.string (aM l)] w fun e c=>e=.returned (.bool (g_ l))∧w=c:=by
 have a:=O (EH l);by_cases h4:l.length≤4
 ·by_cases h1:((l.length:Int) == 1)=true
  ·go_in
   go_wp2;go_ret
   refine⟨bD ?_,rfl⟩
   rw [a.o];simp at h1
   simp;omega
  ·have b:((l.length:Int) == 1)=false:=by simpa using h1
   clear h1;go_in
   go_wp2;go_ret
   refine⟨bD ?_,rfl⟩
   rw [a.o];simp at b
   simp [h4];omega
 ·go_in
  go_wp2;go_ret
  refine⟨bD ?_,rfl⟩
  rw [a.o];simp;omega
def Env (w : World) : Prop := ∃ B, B ≤ w.heap.size ∧ Lib.TabBelow Tryz.prog B w "strings.asciiSpace" IntKind.u8 Lib.asciiSpaceTab
theorem Env.tab {w : World} (h : Env w) : Lib.TabIs Tryz.prog w "strings.asciiSpace" IntKind.u8 Lib.asciiSpaceTab := by
 obtain⟨B,_,h⟩:=h;exact h.here
theorem Env.below {w e:World}(h:Env w)(d:Below w.heap.size w e):Env e:=by
 obtain⟨B,c,h⟩:=h;exact⟨B,Nat.le_trans c d.size,fun b a=>h b ((d.mono c).trans a)⟩
theorem Env.alloc {w:World}(h:Env w)(o:Obj):Env (w.alloc o):=h.below ((Below.refl _ _).alloc (aaJ _) o)
theorem Env.drew {w:World}(h:Env w):Env w.drew:=h.below ((Below.refl _ _).drew)
def lD (l:List Bs):Array Value:=(l.map fun x=>Value.string (aM x)).toArray
theorem Tk (l:List Bs)(i:Nat)(h:i < l.length):(lD l)[i]? = some (.string (aM (sg l i))):=by
 simp [lD,sg,h]
theorem NG (l:List UInt8)(h:l.all (fun b=>decide (b.toNat < 128))=true):∀ (j:Nat) (b:UInt8),l[j]? = some b→b.toNat < 128:=by
 intro j b a
 have:=aaR.1 h b (aaM a)
 simpa using this
theorem Fg:Lib.fields [97,110,100,32,97,115,107,32,98,108,97,109,101,32,98,111,111,108,32,98,111,117,110,100,115,32,99,104,111,111,115,101,32,99,111,117,110,116,32,101,108,115,101,32,102,97,108,115,101,32,102,117,110,32,105,102,32,105,110,32,105,110,116,32,108,101,116,32,108,111,111,107,32,109,97,121,32,109,117,115,116,32,110,111,116,32,111,98,115,101,114,118,101,32,111,114,32,114,101,116,114,97,99,116,32,116,104,101,110,32,116,114,117,101,32,116,121,112,101,32,117,112,116,111,32,118,97,108,117,101,115,32,119,104,121]=keywords:=by decide +kernel
theorem M_:Lib.fields [61,61,32,33,61,32,60,61,32,62,61,32,46,46,32,43,32,45,32,42,32,47,32,37,32,60,32,62,32,61,32,40,32,41,32,91,32,93,32,123,32,125,32,44,32,58,32,59,32,46]=signs:=by decide +kernel
theorem Co (w:World)(a:Env w) :
  Calls Tryz.prog 130 #[] w fun e b=>e=.returned (.slice (some ⟨w.heap.size,0,none⟩) 27 27)∧w.alloc (.cells (lD keywords) 9)=b:=by
 go_in
 go_wp2_with (go_at_call 180;refine (Tryz.strings_Fields_laid _ _ ?c1 ?c2 a.tab).mono ?_)
 case c1=>decide +kernel
 case c2=>exact NG _ (by decide +kernel)
 ·go_ret;simp only [Fg];exact⟨rfl,rfl⟩
theorem W9 (w:World)(a:Env w) :
  Calls Tryz.prog 133 #[] w fun e b=>e=.returned (.slice (some ⟨w.heap.size,0,none⟩) 23 23)∧w.alloc (.cells (lD signs) 9)=b:=by
 go_in
 go_wp2_with (go_at_call 180;refine (Tryz.strings_Fields_laid _ _ ?c1 ?c2 a.tab).mono ?_)
 case c1=>decide +kernel
 case c2=>exact NG _ (by decide +kernel)
 ·go_ret;simp only [M_];exact⟨rfl,rfl⟩
theorem JG (w:World) :
  Calls Tryz.prog 144 #[] w fun e a=>e=.returned (.slice (some ⟨w.heap.size,0,none⟩) 27 27)∧w.alloc (.cells (lD keywords) 9)=a:=by
 go_in
 go_wp2;go_ret;exact⟨rfl,rfl⟩
theorem SX (w:World) :
  Calls Tryz.prog 145 #[] w fun e a=>e=.returned (.slice (some ⟨w.heap.size,0,none⟩) 23 23)∧w.alloc (.cells (lD signs) 9)=a:=by
 go_in
 go_wp2;go_ret;exact⟨rfl,rfl⟩
theorem FN {w:World}{b:Nat}{xs:List Bs}{T:TypeId}{fr:Nat × Nat}(a:w.heap[b]? = some (.cells (lD xs) T fr))(j:Nat)(h:j < xs.length) :
  w.cell? ⟨b,j,none⟩=some (.string (aM (sg xs j))):=by
 rw [Lib.cell_of_heap a];exact Tk xs j h
theorem in_any (xs:List Bs)(x:Bs)(b c T:Nat)(fr:Nat × Nat)(w:World)(h:w.heap[b]? = some (.cells (lD xs) T fr))(m:xs.length≤1000) :
  Calls Tryz.prog 143 #[.slice (some ⟨b,0,none⟩) xs.length c,.string (aM x)] w fun e k=>e=.returned (.bool (hasB xs x))∧w=k:=by
 have j:=O h;clear h;go_in
 go_wp2;go_loop [5] (fun i=>∃ n:Nat,n≤xs.length∧i=.int .i64 n∧hasB (xs.take n) x=false) (fun i=>xs.length - (intOf i).toNat)
 case atStart=>exact⟨0,aaL _,rfl,rfl⟩
 case round =>
  obtain⟨n,q,rfl,a⟩:=hrel;have g:=O a;clear a;by_cases d:n < xs.length
  ·have l:=FN j.o n d;go_wp2
   ·have f:(sg xs n == x)=true:=by assumption
    go_ret;exact⟨bD (hasB_of xs x n d (beq_iff_eq.1 f)).symm,rfl⟩
   ·have f:(sg xs n == x)=false:=by assumption
    exact⟨⟨n+1,by omega,by go_num,by rw [Vw xs x n d,g.o,Bool.false_or,BEq.comm,f]⟩,by simp [intOf];omega⟩
  ·go_wp2;go_ret;exact⟨bD (by have:=g.o;rw [aaN (by omega)] at this;exact this.symm),rfl⟩
theorem in_any' (xs:List Bs)(x:Bs)(b c n T:Nat)(fr:Nat × Nat)(w:World)(a:w.heap[b]? = some (.cells (lD xs) T fr))(d:xs.length≤1000)(f:n=xs.length) :
  Calls Tryz.prog 143 #[.slice (some ⟨b,0,none⟩) n c,.string (aM x)] w fun e g=>e=.returned (.bool (hasB xs x))∧w=g:=by
 subst f;exact in_any xs x b c T fr w a d
theorem vZ (xs:List Bs)(x:Bs)(b c n T:Nat)(fr:Nat × Nat)(w:World)(g:w.heap[b]? = some (.cells (lD xs) T fr))(m:xs.length≤1000)(k:n=xs.length) :
  Calls Tryz.prog 129 #[.slice (some ⟨b,0,none⟩) n c,.string (aM x)] w fun e f=>e=.returned (.bool (hasB xs x))∧w=f:=by
 subst k;refine (Tryz.slices_Contains_string b 0 xs.length c (xs.map aM) (aM x) w (by simp) (by omega) ?_).mono ?_
 ·intro j i;have d:j < xs.length:=by simpa using i
  rw [Nat.zero_add,FN g j d];simp [d,sg]
 ·rintro e f ⟨rfl,rfl⟩
  refine⟨bD ?_,rfl⟩
  rw [aaI,Lib.containsS_iff];simp only [hasB,List.contains_iff_mem];rw [aaN (by simp),List.mem_map];constructor
  ·rintro⟨a,l,e⟩
   rwa [← ofL_inj e]
  ·exact fun h=>⟨x,h,rfl⟩
theorem Jy (s p:Bs)(w:World) :
  Calls Tryz.prog 134 #[.string (aM s),.string (aM p)] w fun e a=>e=.returned (.bool (mO p s))∧w=a :=
 (Tryz.strings_HasPrefix (aM s) (aM p) w).mono fun _ _ h=>⟨h.1,h.2.symm⟩
theorem za {k:Nat}{t:Bs}{l:Bs}{a:Int}{b:Bs}(h:first l=(k,t))(c:a=k)(d:b=t) :
  Ending.returned (.tuple #[.int .u8 a,.string (aM b)])=.returned (.tuple #[.int .u8 (first l).1,.string (aM (first l).2)]):=by
 subst c;subst d;rw [h]
theorem yY (l:Bs)(w:World)(F:Env w)(C:l.length≤100000000) :
  Calls Tryz.prog 91 #[.string (aM l)] w fun e a=>e=.returned (.tuple #[.int .u8 (first l).1,.string (aM (first l).2)])∧Below w.heap.size w a:=by
 have y:=O F;clear F;by_cases h00:l.length=0
 ·have B:l.isEmpty=true:=by cases l <;> simp_all
  have f:=O h00;clear h00;go_in
  go_wp2;go_ret2
  exact⟨za (b:=[]) (lH l f.o) rfl rfl,Below.refl _ _⟩
 have B:l.isEmpty=false:=by cases l <;> simp_all
 have h0:0 < l.length:=by omega
 have f:=O h00;clear h00;by_cases h:dP (gt l 0)=true
 ·have J:=mR dI l;have d:=heap_alloc_new w (.cells (lD keywords) 9);have g:=O d;clear d;have c:Below w.heap.size w (w.alloc (.cells (lD keywords) 9)):=(Below.refl _ _).alloc (aaJ _) _;have q:=O c;clear c;by_cases t:hasB keywords (l.take (aV dI l))=true
  ·go_in
   go_wp2_with (first
    | (go_at_call 127;refine (zh _ _).mono ?_;rintro e a ⟨rfl,rfl⟩)
    | (go_at_call 125;refine (Jd l _ C).mono ?_;rintro e a ⟨rfl,rfl⟩)
    | (go_at_call 130;refine (Co _ y.o).mono ?_;rintro e a ⟨rfl,rfl⟩)
    | (go_at_call 129;refine (vZ keywords _ _ _ _ _ _ _ g.o (by decide) rfl).mono ?_;rintro e a ⟨rfl,rfl⟩))
   go_ret2
   exact⟨za (jI l f.o h t) rfl rfl,q.o⟩
  ·have H:hasB keywords (l.take (aV dI l))=false:=by simpa using t
   by_cases j:aV dI l≤12
   case' pos=>have m:=O (iD l f.o h t j)
   case' neg=>have m:=O (jE l f.o h t j)
   all_goals
    clear t;go_in
    go_wp2_with (first
     | (go_at_call 127;refine (zh _ _).mono ?_;rintro e a ⟨rfl,rfl⟩)
     | (go_at_call 125;refine (Jd l _ C).mono ?_;rintro e a ⟨rfl,rfl⟩)
     | (go_at_call 130;refine (Co _ y.o).mono ?_;rintro e a ⟨rfl,rfl⟩)
     | (go_at_call 129;refine (vZ keywords _ _ _ _ _ _ _ g.o (by decide) rfl).mono ?_;rintro e a ⟨rfl,rfl⟩))
    go_ret2
    exact⟨za (by first | exact m.o) rfl rfl,q.o⟩
 have I:dP (gt l 0)=false:=by simpa using h
 by_cases hd:aQ (gt l 0)=true
 ·have J:=mR aQ l
  have v:0 < aV aQ l:=by
   unfold aV
   cases l with
   | nil=>simp at h0
   | cons b r=>have A:aQ b=true:=hd;rw [List.takeWhile_cons_of_pos A];simp
  by_cases j:g_ (l.take (aV aQ l))=true
  case' pos=>have m:=O (iJ l f.o h hd j)
  case' neg=>have m:=O (jm l f.o h hd j);have j:g_ (l.take (aV aQ l))=false:=by simpa using j
  all_goals
   clear h;go_in
   go_wp2_with (first
    | (go_at_call 127;refine (zh _ _).mono ?_;rintro e a ⟨rfl,rfl⟩)
    | (go_at_call 131;refine (DX _ _).mono ?_;rintro e a ⟨rfl,rfl⟩)
    | (go_at_call 125;refine (Qg l _ C).mono ?_;rintro e a ⟨rfl,rfl⟩)
    | (go_at_call 132;refine (Mq (l.take (aV aQ l)) _ (by simp;omega) (by simp;omega)).mono ?_;rintro e a ⟨rfl,rfl⟩))
   go_ret2
   exact⟨za (by exact m.o) rfl rfl,Below.refl _ _⟩
 ·have G:aQ (gt l 0)=false:=by simpa using hd
  have d:=heap_alloc_new w (.cells (lD signs) 9);have g:=O d;clear d;have c:Below w.heap.size w (w.alloc (.cells (lD signs) 9)):=(Below.refl _ _).alloc (aaJ _) _;have q:=O c;clear c;have E:=O h;clear h;have D:=O hd;clear hd;go_in
  go_wp2_with (first
   | (go_at_call 127;refine (zh _ _).mono ?_;rintro e a ⟨rfl,rfl⟩)
   | (go_at_call 131;refine (DX _ _).mono ?_;rintro e a ⟨rfl,rfl⟩)
   | (go_at_call 133;refine (W9 _ y.o).mono ?_;rintro e a ⟨rfl,rfl⟩))
  go_loop [42] (fun i=>∃ n:Nat,n≤23∧i=.int .i64 n∧Ac l n) (fun i=>23 - (intOf i).toNat)
  case atStart=>exact⟨0,aaL _,rfl,EJ _⟩
  case round =>
   obtain⟨n,j,rfl,u⟩:=hrel;have x:=O u;clear u;by_cases k:n < 23
   ·have K:=FN g.o n (show n < signs.length from k);go_wp2_with (go_at_call 134;refine (Jy _ _ _).mono ?_;rintro e a ⟨rfl,rfl⟩)
    ·have v:mO (sg signs n) l=true:=by assumption
     go_ret2
     exact⟨za (iN l f.o E.o D.o _ (IZ l n k x.o v)) rfl rfl,q.o⟩
    ·have v:mO (sg signs n) l=false:=by assumption
     exact⟨⟨n+1,by omega,by go_num,yF l n k x.o v⟩,by simp [intOf];omega⟩
   ·go_wp2;go_ret2
    have e:n=23:=by omega
    exact⟨za (b:=[]) (iM l f.o E.o D.o (ES l (e ▸ x.o))) rfl rfl,q.o⟩
def Tq (k:Nat)(t:Bs)(a:Int):Value:=.agg #[.int .u8 k,.string (aM t),.int .i64 a]
def qO (l:Bs)(a:Nat):Value:=if (first l).1=0 then Tq 0 [] 0 else Tq (first l).1 (first l).2 a
theorem xX (l:Bs)(a:Nat):gt (l.drop a) 0=gt l a:=by rw [FJ];rfl
theorem Qf (p:UInt8→Bool)(l:Bs)(a k:Nat)(h1:a≤k)(h2:k≤l.length)(b:∀ c ∈ (l.drop a).take (k - a),p c=true)(d:k=l.length∨k < l.length∧p (gt l k)=false) :
  aV p (l.drop a)=k - a:=by
 refine tF p _ _ (by simp;omega) b ?_;rcases d with h | ⟨h,e⟩
 ·exact .inl (by simp;omega)
 ·exact .inr ⟨by simp;omega,by rw [FJ,show a+(k - a)=k by omega];exact e⟩
theorem Y7 (p:UInt8→Bool)(l:Bs)(a k:Nat)(h1:a≤k)(h2:k < l.length)(b:∀ c ∈ (l.drop a).take (k - a),p c=true)(d:p (gt l k)=true):∀ c ∈ (l.drop a).take (k+1 - a),p c=true:=by
 rw [show k+1 - a=(k - a)+1 by omega];refine sw p _ _ (by simp;omega) b ?_;rw [FJ,show a+(k - a)=k by omega];exact d
theorem OZ (b:UInt8):dI b=(dP b || aQ b):=rfl
theorem MW (l:Bs)(a:Nat)(w:World)(N:l.length≤100000000)(I:a < l.length)(K:dP (gt l a)=true) :
  Calls Tryz.prog 100 #[.string (aM l),.int .i64 a] w fun e j=>e=.returned (qO (l.drop a) a)∧Below w.heap.size w j:=by
 have x:=O (show ¬ (l.drop a).length=0 by simp;omega);have A:=O (show dP (gt (l.drop a) 0)=true by rw [xX];exact K);go_in
 go_wp2_with (first
  | (go_at_call 141;refine (sO _ _).mono ?_;rintro e j ⟨rfl,rfl⟩))
 go_loop [5] (fun i=>∃ k:Nat,a≤k∧k≤l.length∧i=.int .i64 k∧∀ c ∈ (l.drop a).take (k - a),dI c=true) (fun i=>l.length - (intOf i).toNat)
 case atStart=>exact⟨a,aaJ _,by omega,rfl,by simp⟩
 case round =>
  obtain⟨k,n,D,rfl,d⟩:=hrel;have F:=O d;clear d;by_cases b:k < l.length∧dI (gt l k)=true
  ·obtain⟨b,u⟩:=b;have H:=O u;by_cases h1:dP (gt l k)=true
   case' neg=>have B:dP (gt l k)=false:=by simpa using h1
   case' neg=>have h2:aQ (gt l k)=true:=by rw [OZ,B] at u;simpa using u
   all_goals
    clear u
    go_wp2_with (first
     | (go_at_call 141;refine (sO _ _).mono ?_;rintro e j ⟨rfl,rfl⟩)
     | (go_at_call 142;refine (qg _ _).mono ?_;rintro e j ⟨rfl,rfl⟩))
    exact⟨⟨k+1,by omega,by omega,by go_num,Y7 _ _ _ _ n b F.o H.o⟩,by simp [intOf];omega⟩
  ·have E:aV dI (l.drop a)=k - a:=by
    refine Qf _ _ _ _ n D F.o ?_;rcases Nat.lt_or_ge k l.length with h | h
    ·exact .inr ⟨h,by simpa using fun g=>b ⟨h,g⟩⟩
    ·exact .inl (by omega)
   have J:(k < l.length∧dP (gt l k)=false∧aQ (gt l k)=false)∨¬ k < l.length:=by
    rcases Nat.lt_or_ge k l.length with h | h
    ·have:dI (gt l k)=false:=by simpa using fun g=>b ⟨h,g⟩
     exact .inl ⟨h,by simpa [OZ] using this⟩
    ·exact .inr (by omega)
   have C:(hasB keywords ((l.take k).drop a)=true∧first (l.drop a)=(3,(l.take k).drop a)) ∨
     (hasB keywords ((l.take k).drop a)=false∧k - a≤12∧first (l.drop a)=(1,(l.take k).drop a)) ∨
     (hasB keywords ((l.take k).drop a)=false∧12 < k - a∧first (l.drop a)=(0,[])):=by
    have e:(l.take k).drop a=(l.drop a).take (aV dI (l.drop a)):=by rw [E,List.drop_take]
    rw [e,← E];by_cases f:hasB keywords ((l.drop a).take (aV dI (l.drop a)))=true
    ·exact .inl ⟨f,jI _ x.o A.o f⟩
    ·have q:hasB keywords ((l.drop a).take (aV dI (l.drop a)))=false:=by simpa using f
     by_cases r:aV dI (l.drop a)≤12
     ·exact .inr (.inl ⟨q,r,iD _ x.o A.o f r⟩)
     ·exact .inr (.inr ⟨q,by omega,jE _ x.o A.o f r⟩)
   clear b E;rcases J with ⟨b,L,M⟩ | b <;> rcases C with ⟨f,t⟩ | ⟨f,r,t⟩ | ⟨f,r,t⟩
   all_goals
    have G:=O t;clear t;have m:=heap_alloc_new (w.alloc (Obj.cells #[Value.int IntKind.u8 0,Value.string { data:=#[] },Value.int IntKind.i64 0] 68)) (.cells (lD keywords) 9);rw [World.size_alloc] at m
    have y:=O m;clear m
    go_wp2_with (first
     | (go_at_call 141;refine (sO _ _).mono ?_;rintro e j ⟨rfl,rfl⟩)
     | (go_at_call 142;refine (qg _ _).mono ?_;rintro e j ⟨rfl,rfl⟩)
     | (go_at_call 144;refine (JG _).mono ?_;rintro e j ⟨rfl,rfl⟩)
     | (go_at_call 143;refine (in_any' keywords _ _ _ _ _ _ _ y.o (by decide) rfl).mono ?_;rintro e j ⟨rfl,rfl⟩))
    refine bodyPost_ret (v:=qO (l.drop a) a) ?_ rfl ⟨rfl,((Below.refl _ _).alloc (aaJ _) _).alloc (by simp) _⟩;simp only [qO,G.o];simp [results,Tryz.results100,go_sem]
    rfl
theorem MV (l:Bs)(a:Nat)(w:World)(M:l.length≤100000000)(H:a < l.length)(K:dP (gt l a)=false)(hd:aQ (gt l a)=true) :
  Calls Tryz.prog 100 #[.string (aM l),.int .i64 a] w fun e r=>e=.returned (qO (l.drop a) a)∧Below w.heap.size w r:=by
 have t:=O (show ¬ (l.drop a).length=0 by simp;omega);have x:=O (show ¬ dP (gt (l.drop a) 0)=true by rw [xX,K];decide);have u:=O (show aQ (gt (l.drop a) 0)=true by rw [xX];exact hd);go_in
 go_wp2_with (first
  | (go_at_call 141;refine (sO _ _).mono ?_;rintro e r ⟨rfl,rfl⟩)
  | (go_at_call 142;refine (qg _ _).mono ?_;rintro e r ⟨rfl,rfl⟩))
 go_loop [5] (fun i=>∃ k:Nat,a≤k∧k≤l.length∧i=.int .i64 k∧∀ c ∈ (l.drop a).take (k - a),aQ c=true) (fun i=>l.length - (intOf i).toNat)
 case atStart=>exact⟨a,aaJ _,by omega,rfl,by simp⟩
 case round =>
  obtain⟨k,n,C,rfl,f⟩:=hrel;have E:=O f;clear f;by_cases b:k < l.length∧aQ (gt l k)=true
  ·obtain⟨b,J⟩:=b;go_wp2_with (go_at_call 142;refine (qg _ _).mono ?_;rintro e r ⟨rfl,rfl⟩)
   exact⟨⟨k+1,by omega,by omega,by go_num,Y7 _ _ _ _ n b E.o J⟩,by simp [intOf];omega⟩
  ·have D:aV aQ (l.drop a)=k - a:=by
    refine Qf _ _ _ _ n C E.o ?_;rcases Nat.lt_or_ge k l.length with h | h
    ·exact .inr ⟨h,by simpa using fun g=>b ⟨h,g⟩⟩
    ·exact .inl (by omega)
   have B:a < k:=by
    rcases Nat.lt_or_ge a k with h | h
    ·exact h
    ·have e:k=a:=by omega
     exact absurd ⟨by omega,by rw [e];exact hd⟩ b
   have I:(k < l.length∧aQ (gt l k)=false)∨¬ k < l.length:=by
    rcases Nat.lt_or_ge k l.length with h | h
    ·exact .inl ⟨h,by simpa using fun g=>b ⟨h,g⟩⟩
    ·exact .inr (by omega)
   have m:gt ((l.take k).drop a) 0=gt l a:=by rw [FJ,Nat.add_zero,gt_take _ _ _ B]
   have A:(((k - a:Nat):Int) == 1)=true∧first (l.drop a)=(2,(l.take k).drop a) ∨
     ((((k - a:Nat):Int) == 1)=false∧k - a≤4∧(((gt l a).toNat:Int) != 48)=true∧first (l.drop a)=(2,(l.take k).drop a)) ∨
     ((((k - a:Nat):Int) == 1)=false∧k - a≤4∧(((gt l a).toNat:Int) != 48)=false∧first (l.drop a)=(0,[])) ∨
     ((((k - a:Nat):Int) == 1)=false∧4 < k - a∧first (l.drop a)=(0,[])):=by
    have e:(l.take k).drop a=(l.drop a).take (aV aQ (l.drop a)):=by rw [D,List.drop_take]
    have en:=EH ((l.take k).drop a);rw [m,e] at en
    have G:((l.drop a).take (aV aQ (l.drop a))).length=k - a:=by rw [D];simp;omega
    rw [G] at en
    rw [e];by_cases h1:k - a=1
    ·refine .inl ⟨by simp [h1],iJ _ t.o x.o u.o (by rw [en];simp [h1])⟩
    ·have j:(((k - a:Nat):Int) == 1)=false:=by simp;omega
     by_cases h4:k - a≤4
     ·by_cases h48:(((gt l a).toNat:Int) != 48)=true
      ·exact .inr (.inl ⟨j,h4,h48,iJ _ t.o x.o u.o (by rw [en,h48];simp [h4])⟩)
      ·have d:(((gt l a).toNat:Int) != 48)=false:=by simpa using h48
       exact .inr (.inr (.inl ⟨j,h4,d,jm _ t.o x.o u.o (by rw [en,d];simp [h1])⟩))
     ·exact .inr (.inr (.inr ⟨j,by omega,jm _ t.o x.o u.o (by rw [en];simp;omega)⟩))
   have y:=O m;clear m;clear b D;rcases I with ⟨b,L⟩ | b <;> rcases A with ⟨h1,q⟩ | ⟨h1,h4,h48,q⟩ | ⟨h1,h4,h48,q⟩ | ⟨h1,h4,q⟩
   all_goals
    have F:=O q;clear q;have N:=y.o
    go_wp2_with (first
     | (go_at_call 142;refine (qg _ _).mono ?_;rintro e r ⟨rfl,rfl⟩))
    refine bodyPost_ret (v:=qO (l.drop a) a) ?_ rfl ⟨rfl,((Below.refl _ _).alloc (aaJ _) _)⟩;simp only [qO,F.o];simp [results,Tryz.results100,go_sem]
    rfl
end Go.Proofs.YthepmkjggfijoaaGreatDoor
