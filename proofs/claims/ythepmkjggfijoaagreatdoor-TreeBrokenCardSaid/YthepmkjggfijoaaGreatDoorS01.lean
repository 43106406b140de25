/-
  A part of the proof.
-/
import Derived.Test.YthepmkjggfijoaaGreatDoorSA
import Derived.Lib.AtoiTie
set_option linter.all false
set_option maxRecDepth 100000
namespace Mist
abbrev Bs:=List UInt8
def aM (l:Bs):ByteArray:=⟨⟨l⟩⟩
theorem Sl (l:Bs):(aM l).data.toList=l:=rfl
theorem aH (l:Bs):(aM l).size=l.length:=rfl
def gt (l:Bs)(n:Nat):UInt8:=l.getD n 0
theorem aS (l:Bs)(i:Nat)(h:i < (aM l).size):(aM l)[i]'h=gt l i:=by
 have a:i < l.length:=h;simp [gt,a];rfl
theorem Zu (l:Bs)(n:Nat)(h:n < l.length):gt l n=l[n]:=by simp [gt,h]
theorem FJ (l:Bs)(n k:Nat):gt (l.drop n) k=gt l (n+k):=by simp [gt,aaH]
theorem gt_take (l:Bs)(n k:Nat)(h:k < n):gt (l.take n) k=gt l k:=by simp [gt,aaH,h]
theorem nQ (l:Bs)(n:Nat)(h:n < l.length):l.drop n=gt l n :: l.drop (n+1):=by rw [Zu l n h];exact aaX h
theorem take_gt (l:Bs)(n:Nat)(h:n < l.length):l.take (n+1)=l.take n ++ [gt l n]:=by rw [Zu l n h];exact List.take_succ_eq_append_getElem h
theorem ofL_inj {l m:Bs}(h:aM l=aM m):l=m:=by
 have:=congrArg (fun s=>s.data.toList) h
 simpa [Sl] using this
theorem aj (l:Bs)(a b:Nat):(aM l).extract a b=aM ((l.take b).drop a):=by
 apply ByteArray.ext
 simp [aM,ByteArray.data_extract,List.extract_toArray,List.extract_eq_take_drop,List.drop_take]
theorem ak (l m:Bs):aM l ++ aM m=aM (l ++ m):=by
 apply ByteArray.ext
 simp [aM,ByteArray.data_append]
theorem loop_eq (s:ByteArray):∀ (k i:Nat) (r:List UInt8),s.size - i=k→ByteArray.toList.loop s i r=r.reverse ++ s.data.toList.drop i:=by
 intro k
 induction k with
 | zero =>
  intro i r h;unfold ByteArray.toList.loop;rw [if_neg (by omega),List.drop_eq_nil_of_le (by rw [Array.length_toList];show s.size≤i;omega)];simp
 | succ k a =>
  intro i r h;unfold ByteArray.toList.loop;have hi:i < s.data.toList.length:=by rw [Array.length_toList];show i < s.size;omega
  rw [if_pos (by omega),a (i+1) _ (by omega),aaX hi]
  have:s.get! i=s.data.toList[i]:=by
   show s.data[i]! = _
   rw [getElem!_pos s.data i (by simpa using hi)];rfl
  simp [this]
theorem aB (l:Bs):(aM l).toList=l:=by
 have:=loop_eq (aM l) ((aM l).size - 0) 0 [] rfl
 simpa [ByteArray.toList,aM] using this
def hasB (xs:List Bs)(x:Bs):Bool:=xs.contains x
def sg (xs:List Bs)(n:Nat):Bs:=xs.getD n []
theorem IY (xs:List Bs)(n:Nat)(h:n < xs.length):sg xs n=xs[n]:=by simp [sg,h]
theorem Vw (xs:List Bs)(x:Bs)(n:Nat)(h:n < xs.length):hasB (xs.take (n+1)) x=(hasB (xs.take n) x || (x == sg xs n)):=by
 rw [IY _ _ h,List.take_succ_eq_append_getElem h,hasB,hasB,List.contains_append]
 congr 1
 rw [aaI];simp
theorem hasB_of (xs:List Bs)(x:Bs)(n:Nat)(h:n < xs.length)(e:sg xs n=x):hasB xs x=true:=by
 rw [IY _ _ h] at e
 simp [hasB,← e]
def gV (b:UInt8):Bool:=b == 10 || (32≤b && b≤126)
def check (s:Bs):Nat × Nat :=
 if 2000 < s.length then (2000,5) else
 match s.findIdx? (fun b=>!gV b) with
 | some i=>(i,4)
 | none=>(0,0)
def dP (b:UInt8):Bool:=97≤b && b≤122
def aQ (b:UInt8):Bool:=48≤b && b≤57
def dI (b:UInt8):Bool:=dP b || aQ b
def pR (b:UInt8):Bool:=b == 32 || b == 10
def lK (b:UInt8):Bool:=b != 10
def aV (p:UInt8→Bool)(s:Bs):Nat:=(s.takeWhile p).length
def gK:Bool→Bs→Nat
 | _,[]=>0
 | false,b :: r=>if pR b then 1+gK false r else if b == 35 then 1+gK true r else 0
 | true,b :: r=>if b == 10 then 1+gK false r else 1+gK true r
def skip (s:Bs):Nat:=gK false s
def g_ (s:Bs):Bool:=decide (s.length≤4) && (s.length == 1 || gt s 0 != 48)
def keywords:List Bs:=[[97,110,100],[97,115,107],[98,108,97,109,101],[98,111,111,108],[98,111,117,110,100,115],[99,104,111,111,115,101],[99,111,117,110,116],[101,108,115,101],[102,97,108,115,101],[102,117,110],[105,102],[105,110],[105,110,116],[108,101,116],[108,111,111,107],[109,97,121],[109,117,115,116],[110,111,116],[111,98,115,101,114,118,101],[111,114],[114,101,116,114,97,99,116],[116,104,101,110],[116,114,117,101],[116,121,112,101],[117,112,116,111],[118,97,108,117,101,115],[119,104,121]]
def signs:List Bs:=[[61,61],[33,61],[60,61],[62,61],[46,46],[43],[45],[42],[47],[37],[60],[62],[61],[40],[41],[91],[93],[123],[125],[44],[58],[59],[46]]
def mO (g s:Bs):Bool:=g.isPrefixOf s
def jL (s:Bs):Option Bs:=signs.find? (fun g=>mO g s)
def first (s:Bs):Nat × Bs :=
 if s.length=0 then (0,[]) else
 if dP (gt s 0)=true then
  if hasB keywords (s.take (aV dI s))=true then (3,s.take (aV dI s))
  else if aV dI s≤12 then (1,s.take (aV dI s)) else (0,[])
 else if aQ (gt s 0)=true then
  if g_ (s.take (aV aQ s))=true then (2,s.take (aV aQ s)) else (0,[])
 else match jL s with
  | some g=>(4,g)
  | none=>(0,[])
structure Tok where
 kind:Nat
 text:Bs
 at_:Int
 deriving DecidableEq,Inhabited
def kind (s:Bs):Nat:=if (first s).2=s then (first s).1 else 0
def iV (s:Bs):Nat:=if kind s=0 then 4 else 0
def isName (s:Bs):Bool:=kind s == 1
section
variable (s:Bs) (h0:¬ s.length=0)
include h0
theorem jI (h:dP (gt s 0)=true)(k:hasB keywords (s.take (aV dI s))=true):first s=(3,s.take (aV dI s)):=by
 rw [first,if_neg h0,if_pos h,if_pos k]
theorem iD (h:dP (gt s 0)=true)(k:¬ hasB keywords (s.take (aV dI s))=true)(n:aV dI s≤12):first s=(1,s.take (aV dI s)):=by
 rw [first,if_neg h0,if_pos h,if_neg k,if_pos n]
theorem jE (h:dP (gt s 0)=true)(k:¬ hasB keywords (s.take (aV dI s))=true)(n:¬ aV dI s≤12):first s=(0,[]):=by
 rw [first,if_neg h0,if_pos h,if_neg k,if_neg n]
theorem iJ (h:¬ dP (gt s 0)=true)(d:aQ (gt s 0)=true)(n:g_ (s.take (aV aQ s))=true):first s=(2,s.take (aV aQ s)):=by
 rw [first,if_neg h0,if_neg h,if_pos d,if_pos n]
theorem jm (h:¬ dP (gt s 0)=true)(d:aQ (gt s 0)=true)(n:¬ g_ (s.take (aV aQ s))=true):first s=(0,[]):=by
 rw [first,if_neg h0,if_neg h,if_pos d,if_neg n]
theorem iN (h:¬ dP (gt s 0)=true)(d:¬ aQ (gt s 0)=true)(g:Bs)(e:jL s=some g):first s=(4,g):=by
 rw [first,if_neg h0,if_neg h,if_neg d,e]
theorem iM (h:¬ dP (gt s 0)=true)(d:¬ aQ (gt s 0)=true)(e:jL s=none):first s=(0,[]):=by
 rw [first,if_neg h0,if_neg h,if_neg d,e]
end
theorem lH (s:Bs)(h0:s.length=0):first s=(0,[]):=by rw [first,if_pos h0]
theorem RB (s:Bs)(h:(first s).1=0):(first s).2=[]:=by
 unfold first at h ⊢
 split
 ·rfl
 ·rename_i h0
  rw [if_neg h0] at h
  split
  ·rename_i h1
   rw [if_pos h1] at h
   split
   ·rename_i h2;rw [if_pos h2] at h;simp at h
   ·rename_i h2
    rw [if_neg h2] at h
    split
    ·rename_i h3;rw [if_pos h3] at h;simp at h
    ·rfl
  ·rename_i h1
   rw [if_neg h1] at h
   split
   ·rename_i h2
    rw [if_pos h2] at h
    split
    ·rename_i h3;rw [if_pos h3] at h;simp at h
    ·rfl
   ·rename_i h2
    rw [if_neg h2] at h
    cases a:jL s with
    | none=>rfl
    | some g=>rw [a] at h;simp at h
def Ac (s:Bs)(n:Nat):Prop:=∀ g ∈ signs.take n,mO g s=false
theorem EJ (s:Bs):Ac s 0:=by intro g a;simp at a
theorem yF (s:Bs)(n:Nat)(h:n < 23)(a:Ac s n)(b:mO (sg signs n) s=false):Ac s (n+1):=by
 intro g c;have d:n < signs.length:=h;rw [List.take_succ_eq_append_getElem d] at c
 rcases List.mem_append.1 c with c | c
 ·exact a g c
 ·rw [IY _ _ d] at b
  have:=List.mem_singleton.1 c
  rw [this];exact b
theorem IZ (s:Bs)(n:Nat)(h:n < 23)(a:Ac s n)(b:mO (sg signs n) s=true):jL s=some (sg signs n):=by
 have c:n < signs.length:=h
 have e:signs=signs.take n ++ sg signs n :: signs.drop (n+1):=by
  rw [IY _ _ c,← aaX c,List.take_append_drop]
 refine (congrArg (List.find? fun g=>mO g s) e).trans ?_;rw [List.find?_append]
 have:(signs.take n).find? (fun g=>mO g s)=none:=by
  rw [List.find?_eq_none];intro g d;rw [a g d];simp
 rw [this];simp [b]
theorem ES (s:Bs)(a:Ac s 23):jL s=none:=by
 unfold jL;rw [List.find?_eq_none];intro g b;rw [a g b];simp
theorem GI (s:Bs)(h:2000 < s.length):check s=(2000,5):=by simp [check,h]
theorem BR (s:Bs)(h:s.length≤2000)(a:∀ c ∈ s,gV c=true):check s=(0,0):=by
 have e:s.findIdx? (fun b=>!gV b)=none:=by
  rw [List.findIdx?_eq_none_iff];intro c d;simp [a c d]
 simp [check,e];omega
theorem DU (s:Bs)(n:Nat)(h:s.length≤2000)(d:n < s.length)(e:∀ c ∈ s.take n,gV c=true)(a:gV (gt s n)=false):check s=(n,4):=by
 have f:s.findIdx? (fun b=>!gV b)=some n:=by
  rw [List.findIdx?_eq_some_iff_getElem]
  refine⟨d,by rw [Zu s n d] at a;simp [a],fun j g=>?_⟩
  have:s[j] ∈ s.take n:=by
   rw [List.mem_take_iff_getElem];exact⟨j,by omega,rfl⟩
  simp [e _ this]
 simp [check,f];omega
theorem I8 (r:Bs):gK false (35 :: r)=gK true (35 :: r):=by simp [gK,pR]
theorem I7 (r:Bs):gK false (10 :: r)=gK true (10 :: r):=by simp [gK,pR]
theorem Td (l:Bs):gK true l=aV lK l+gK false (l.drop (aV lK l)):=by
 induction l with
 | nil=>simp [gK,aV]
 | cons b r c =>
  by_cases a:b=10
  ·subst a;simp [aV,lK,I7]
  ·have:aV lK (b :: r)=aV lK r+1:=by unfold aV;rw [List.takeWhile_cons_of_pos (by simp [lK,a])];rfl
   rw [this];simp [gK,a,c];omega
theorem mR (p:UInt8→Bool)(l:Bs):aV p l≤l.length:=by
 unfold aV;exact (List.takeWhile_sublist p).length_le
theorem I9 (l:Bs)(n:Nat)(h:n < l.length)(a:pR (gt l n)=true):skip (l.drop n)=1+skip (l.drop (n+1)):=by
 rw [nQ l n h];simp [skip,gK,a]
theorem Xc (l:Bs)(n:Nat)(h:n < l.length)(a:gt l n=35):skip (l.drop n)=aV lK (l.drop n)+skip (l.drop (n+aV lK (l.drop n))):=by
 have e:skip (l.drop n)=gK true (l.drop n):=by
  rw [nQ l n h,a];exact I8 _
 rw [e,Td,List.drop_drop];rfl
theorem zf (l:Bs)(n:Nat)(h:n < l.length)(a:pR (gt l n)=false)(b:gt l n ≠ 35):skip (l.drop n)=0:=by
 rw [nQ l n h];simp [skip,gK,a,b]
theorem PK (l:Bs)(n:Nat)(h:l.length≤n):skip (l.drop n)=0:=by
 rw [List.drop_eq_nil_of_le h];rfl
theorem skipC_le (b:Bool)(l:Bs):gK b l≤l.length:=by
 induction l generalizing b with
 | nil=>cases b <;> simp [gK]
 | cons c r a =>
  have h1:=a true;have h2:=a false
  cases b <;> simp only [gK,List.length_cons] <;> (repeat' split) <;> omega
theorem uz (l:Bs):skip l≤l.length:=skipC_le _ _
theorem JH (l:Bs)(n:Nat)(h:n < l.length)(a:gt l n=35):0 < aV lK (l.drop n):=by
 rw [nQ l n h,a];unfold aV;rw [List.takeWhile_cons_of_pos (by simp [lK])];simp
theorem Ti (l:Bs)(n:Nat)(h:n < l.length)(a:gt l n ≠ 10):gK true (l.drop n)=1+gK true (l.drop (n+1)):=by
 rw [nQ l n h];simp [gK,a]
theorem Tf (l:Bs)(n:Nat)(h:n < l.length)(a:gt l n=10):gK true (l.drop n)=skip (l.drop n):=by
 rw [nQ l n h,a];exact (I7 _).symm
theorem Tg (l:Bs)(n:Nat)(h:n < l.length)(a:gt l n=35):gK true (l.drop n)=skip (l.drop n):=by
 rw [nQ l n h,a];exact (I8 _).symm
theorem Xb (l:Bs)(n:Nat)(h:l.length≤n):gK true (l.drop n)=skip (l.drop n):=by
 rw [List.drop_eq_nil_of_le h];rfl
end Mist
namespace Mist
def dJ:Nat→Bs→Nat→List Tok→List Tok × Nat × Nat
 | 0,_,_,acc=>(acc,0,0)
 | f+1,l,a,acc =>
  if l.length≤a then (acc,0,0) else
  if (first (l.drop a)).1=0 then ([],a,4)
  else if acc.length=800 then ([],a,5)
  else dJ f l (a+(first (l.drop a)).2.length+skip (l.drop (a+(first (l.drop a)).2.length))) (acc ++ [⟨(first (l.drop a)).1,(first (l.drop a)).2,(a:Int)⟩])
def read (s:Bs):List Tok × Nat × Nat :=
 if (check s).2 ≠ 0 then ([],(check s).1,(check s).2) else dJ (s.length+1) s (skip s) []
theorem S9 (s g:Bs)(h:jL s=some g):0 < g.length∧g.length≤s.length:=by
 have h1:=List.mem_of_find?_eq_some h;have h2:mO g s=true:=List.find?_some (p:=fun g=>mO g s) h
 have:∀ g ∈ signs,0 < g.length:=by decide
 exact⟨this g h1,(List.isPrefixOf_iff_prefix.1 h2).length_le⟩
theorem rZ (p:UInt8→Bool)(s:Bs)(h0:¬ s.length=0)(h:p (gt s 0)=true):0 < aV p s:=by
 cases s with
 | nil=>simp at h0
 | cons b r =>
  have h2:p b=true:=h;unfold aV;rw [List.takeWhile_cons_of_pos h2];simp
theorem kr (s:Bs)(h:(first s).1 ≠ 0):0 < (first s).2.length∧(first s).2.length≤s.length:=by
 by_cases h0:s.length=0
 ·rw [lH s h0] at h;exact absurd rfl h
 by_cases a:dP (gt s 0)=true
 ·have f:=rZ dI s h0 (by simp [dI,a]);have e:=mR dI s;by_cases d:hasB keywords (s.take (aV dI s))=true
  ·rw [jI s h0 a d];simp;omega
  ·by_cases b:aV dI s≤12
   ·rw [iD s h0 a d b];simp;omega
   ·rw [jE s h0 a d b] at h;exact absurd rfl h
 ·by_cases hd:aQ (gt s 0)=true
  ·have f:=rZ aQ s h0 hd;have e:=mR aQ s;by_cases b:g_ (s.take (aV aQ s))=true
   ·rw [iJ s h0 a hd b];simp;omega
   ·rw [jm s h0 a hd b] at h;exact absurd rfl h
  ·cases c:jL s with
   | none=>rw [iM s h0 a hd c] at h;exact absurd rfl h
   | some g=>rw [iN s h0 a hd g c];exact S9 s g c
theorem jK (f:Nat)(l:Bs)(a:Nat)(b:List Tok)(h:l.length≤a):dJ (f+1) l a b=(b,0,0):=by rw [dJ,if_pos h]
theorem kR (f:Nat)(l:Bs)(a:Nat)(b:List Tok)(h:¬ l.length≤a)(k:(first (l.drop a)).1=0):dJ (f+1) l a b=([],a,4):=by rw [dJ,if_neg h,if_pos k]
theorem kQ (f:Nat)(l:Bs)(a:Nat)(b:List Tok)(h:¬ l.length≤a)(k:¬ (first (l.drop a)).1=0)(c:b.length=800):dJ (f+1) l a b=([],a,5):=by rw [dJ,if_neg h,if_neg k,if_pos c]
theorem ji (f:Nat)(l:Bs)(a:Nat)(b:List Tok)(h:¬ l.length≤a)(k:¬ (first (l.drop a)).1=0)(c:¬ b.length=800) :
  dJ (f+1) l a b=dJ f l (a+(first (l.drop a)).2.length+skip (l.drop (a+(first (l.drop a)).2.length))) (b ++ [⟨(first (l.drop a)).1,(first (l.drop a)).2,(a:Int)⟩]):=by
 rw [dJ,if_neg h,if_neg k,if_neg c]
end Mist
namespace Mist
def tg (l:List Tok)(k:Nat):Tok:=l.getD k ⟨0,[],0⟩
theorem PY (l:List Tok)(k:Nat)(h:k < l.length):tg l k=l[k]:=by simp [tg,h]
theorem lN (l:List Tok)(k:Nat)(h:k < l.length):tg l k ∈ l:=by rw [PY l k h];exact List.getElem_mem h
end Mist
namespace Mist
end Mist
namespace Mist
end Mist
namespace Mist
end Mist
namespace Mist
open Go
def digits (acc:Nat)(l:Bs):Nat:=l.foldl (fun n c=>10 * n+(c.toNat - 48)) acc
def numOf (l:Bs):Nat:=digits 0 l
def numberOf (s:Bs):Nat × Nat:=if kind s=2 then (numOf s,0) else (0,4)
theorem qH (s:Bs)(h:¬ kind s=2):numberOf s=(0,4):=by unfold numberOf;rw [if_neg h]
theorem mY (s:Bs)(h:kind s=2):numberOf s=(numOf s,0):=by unfold numberOf;rw [if_pos h]
theorem Ca (c:UInt8)(h:aQ c=true):48≤c.toNat∧c.toNat≤57:=by
 simpa [aQ,UInt8.le_iff_toNat_le] using h
theorem Vp (l:Bs)(h:∀ c ∈ l,aQ c=true):∀ a,digits a l < (a+1) * 10 ^ l.length:=by
 induction l with
 | nil=>intro a;simp [digits]
 | cons c r b =>
  intro a;have f:=Ca c (h c (by simp));have e:digits a (c :: r)=digits (10 * a+(c.toNat - 48)) r:=rfl;rw [e];refine aaW (b (fun d hd=>h d (by simp [hd])) _) ?_;rw [List.length_cons,Nat.pow_succ,Nat.mul_comm _ 10,← Nat.mul_assoc];exact Nat.mul_le_mul_right _ (by omega)
theorem NY (a:Nat)(l:Bs)(c:UInt8):digits a (l ++ [c])=10 * digits a l+(c.toNat - 48):=by simp [digits]
theorem yG (l:Bs)(h:∀ c ∈ l,aQ c=true)(k:l.length≤4):numOf l < 10000:=by
 have h1:=Vp l h 0;have h2:(10:Nat) ^ l.length≤10 ^ 4:=Nat.pow_le_pow_right (by omega) k;unfold numOf;omega
theorem GR (l:Bs)(h:∀ c ∈ l,aQ c=true):∀ a,Lib.decFrom a l=some (digits a l):=by
 induction l with
 | nil=>intro a;rfl
 | cons c r f =>
  intro a;have b:=Ca c (h c (by simp));have e:digits a (c :: r)=digits (10 * a+(c.toNat - 48)) r:=rfl;have hd:Lib.digitVal c=some (c.toNat - 48):=by unfold Lib.digitVal;rw [if_pos b]
  rw [Lib.decFrom,hd,e]
  show Lib.decFrom (a * 10+(c.toNat - 48)) r=_
  rw [Nat.mul_comm];exact f (fun d hd=>h d (by simp [hd])) _
theorem NI (l:Bs)(h:∀ c ∈ l,aQ c=true)(k:l.length≤4)(k0:0 < l.length):Lib.atoiAll l=.ok (numOf l:Int):=by
 rw [Lib.atoiAll_short l (by omega)]
 have:Lib.atoi l=some (numOf l:Int):=by
  cases l with
  | nil=>simp at k0
  | cons b r =>
   have a:=Ca b (h b (by simp))
   have h1:(b == 45)=false:=by
    rw [Bool.eq_false_iff];intro e
    have:=eq_of_beq e;subst this;simp at a
   have h2:(b == 43)=false:=by
    rw [Bool.eq_false_iff];intro e
    have:=eq_of_beq e;subst this;simp at a
   rw [Lib.atoi,h1,h2];simp only [Bool.false_eq_true,if_false];unfold Lib.decNat;rw [if_neg (by simp),GR (b :: r) h 0];rfl
 rw [this];rfl
theorem vo (s:Bs)(h:kind s=2):s.length≤4∧0 < s.length∧∀ c ∈ s,aQ c=true:=by
 have d:(first s).2=s∧(first s).1=2:=by
  unfold kind at h
  split at h
  ·exact⟨by assumption,h⟩
  ·cases h
 obtain⟨h1,h2⟩:=d;by_cases h0:s.length=0
 ·rw [lH s h0] at h2;cases h2
 by_cases a:dP (gt s 0)=true
 ·by_cases d:hasB keywords (s.take (aV dI s))=true
  ·rw [jI s h0 a d] at h2;cases h2
  ·by_cases b:aV dI s≤12
   ·rw [iD s h0 a d b] at h2;cases h2
   ·rw [jE s h0 a d b] at h2;cases h2
 ·by_cases hd:aQ (gt s 0)=true
  ·by_cases b:g_ (s.take (aV aQ s))=true
   ·rw [iJ s h0 a hd b] at h1
    simp only at h1
    have e:=b;rw [h1] at e
    have h4:s.length≤4:=by simp [g_] at e;omega
    refine⟨h4,by omega,?_⟩
    have f:s.length≤(s.takeWhile aQ).length:=by
     have:=congrArg List.length h1
     simp [aV] at this
     omega
    have k:s.takeWhile aQ=s:=(List.takeWhile_prefix aQ).eq_of_length (Nat.le_antisymm (List.takeWhile_prefix aQ).length_le f);have i:=List.all_takeWhile (p:=aQ) (l:=s);rw [k] at i
    simpa using i
   ·rw [jm s h0 a hd b] at h2;cases h2
  ·cases j:jL s with
   | none=>rw [iM s h0 a hd j] at h2;cases h2
   | some g=>rw [iN s h0 a hd g j] at h2;cases h2
theorem Sj (l:Bs)(n:Nat)(h:n < l.length):numOf (l.take (n+1))=10 * numOf (l.take n)+((gt l n).toNat - 48):=by
 rw [List.take_succ_eq_append_getElem h];unfold numOf;rw [NY];simp [gt,h]
theorem gt_mem (l:Bs)(n:Nat)(h:n < l.length):gt l n ∈ l:=by
 have:gt l n=l[n]:=by simp [gt,h]
 rw [this];exact List.getElem_mem h
end Mist
