/-
  A part of the proof.
-/
import Derived.Test.YtalghggmkojblaaGreatDoorSA
import Derived.Lib.AtoiTie
set_option linter.all false
set_option maxRecDepth 100000
namespace Mist
abbrev Bs:=List UInt8
def aG (l:Bs):ByteArray:=⟨⟨l⟩⟩
theorem Tp (l:Bs):(aG l).data.toList=l:=rfl
theorem aN (l:Bs):(aG l).size=l.length:=rfl
def gt (l:Bs)(n:Nat):UInt8:=l.getD n 0
theorem aV (l:Bs)(i:Nat)(h:i < (aG l).size):(aG l)[i]'h=gt l i:=by
 have a:i < l.length:=h;simp [gt,a];rfl
theorem aa1 (l:Bs)(n:Nat)(h:n < l.length):gt l n=l[n]:=by simp [gt,h]
theorem zV (l:Bs)(n:Nat)(h:n < l.length):l.drop n=gt l n :: l.drop (n+1):=by rw [aa1 l n h];exact amZ h
theorem ae7 (l:Bs)(n:Nat)(h:n < l.length):l.take (n+1)=l.take n ++ [gt l n]:=by rw [aa1 l n h];exact List.take_succ_eq_append_getElem h
theorem aew {l m:Bs}(h:aG l=aG m):l=m:=by
 have:=congrArg (fun s=>s.data.toList) h
 simpa [Tp] using this
theorem ak (l:Bs)(a b:Nat):(aG l).extract a b=aG ((l.take b).drop a):=by
 apply ByteArray.ext
 simp [aG,ByteArray.data_extract,List.extract_toArray,List.extract_eq_take_drop,List.drop_take]
theorem aj (l m:Bs):aG l ++ aG m=aG (l ++ m):=by
 apply ByteArray.ext
 simp [aG,ByteArray.data_append]
theorem aem (s:ByteArray):∀ (k i:Nat) (r:List UInt8),s.size - i=k→ByteArray.toList.loop s i r=r.reverse ++ s.data.toList.drop i:=by
 intro k
 induction k with
 | zero =>
  intro i r h;unfold ByteArray.toList.loop;rw [if_neg (by omega),List.drop_eq_nil_of_le (by rw [Array.length_toList];show s.size≤i;omega)];simp
 | succ k a =>
  intro i r h;unfold ByteArray.toList.loop;have hi:i < s.data.toList.length:=by rw [Array.length_toList];show i < s.size;omega
  rw [if_pos (by omega),a (i+1) _ (by omega),amZ hi]
  have:s.get! i=s.data.toList[i]:=by
   show s.data[i]! = _
   rw [getElem!_pos s.data i (by simpa using hi)];rfl
  simp [this]
theorem aF (l:Bs):(aG l).toList=l:=by
 have:=aem (aG l) ((aG l).size - 0) 0 [] rfl
 simpa [ByteArray.toList,aG] using this
def hasB (xs:List Bs)(x:Bs):Bool:=xs.contains x
def sg (xs:List Bs)(n:Nat):Bs:=xs.getD n []
theorem acU (xs:List Bs)(n:Nat)(h:n < xs.length):sg xs n=xs[n]:=by simp [sg,h]
def iJ (b:UInt8):Bool:=b == 10 || (32≤b && b≤126)
def check (s:Bs):Nat × Nat :=
 if 2000 < s.length then (2000,5) else
 match s.findIdx? (fun b=>!iJ b) with
 | some i=>(i,4)
 | none=>(0,0)
def fF (b:UInt8):Bool:=97≤b && b≤122
def bJ (b:UInt8):Bool:=48≤b && b≤57
def dM (b:UInt8):Bool:=fF b || bJ b
def xC (b:UInt8):Bool:=b == 32 || b == 10
def kM (b:UInt8):Bool:=b != 10
def aZ (p:UInt8→Bool)(s:Bs):Nat:=(s.takeWhile p).length
def iI:Bool→Bs→Nat
 | _,[]=>0
 | false,b :: r=>if xC b then 1+iI false r else if b == 35 then 1+iI true r else 0
 | true,b :: r=>if b == 10 then 1+iI false r else 1+iI true r
def skip (s:Bs):Nat:=iI false s
def iB (s:Bs):Bool:=decide (s.length≤4) && (s.length == 1 || gt s 0 != 48)
def keywords:List Bs:=[[97,110,100],[97,115,107],[98,108,97,109,101],[98,111,111,108],[98,111,117,110,100,115],[99,104,111,111,115,101],[99,111,117,110,116],[101,108,115,101],[102,97,108,115,101],[102,117,110],[105,102],[105,110],[105,110,116],[108,101,116],[108,111,111,107],[109,97,121],[109,117,115,116],[110,111,116],[111,98,115,101,114,118,101],[111,114],[114,101,116,114,97,99,116],[116,104,101,110],[116,114,117,101],[116,121,112,101],[117,112,116,111],[118,97,108,117,101,115],[119,104,121]]
def signs:List Bs:=[[61,61],[33,61],[60,61],[62,61],[46,46],[43],[45],[42],[47],[37],[60],[62],[61],[40],[41],[91],[93],[123],[125],[44],[58],[59],[46]]
def rR (g s:Bs):Bool:=g.isPrefixOf s
def lM (s:Bs):Option Bs:=signs.find? (fun g=>rR g s)
def first (s:Bs):Nat × Bs :=
 if s.length=0 then (0,[]) else
 if fF (gt s 0)=true then
  if hasB keywords (s.take (aZ dM s))=true then (3,s.take (aZ dM s))
  else if aZ dM s≤12 then (1,s.take (aZ dM s)) else (0,[])
 else if bJ (gt s 0)=true then
  if iB (s.take (aZ bJ s))=true then (2,s.take (aZ bJ s)) else (0,[])
 else match lM s with
  | some g=>(4,g)
  | none=>(0,[])
structure Tok where
 kind:Nat
 text:Bs
 at_:Int
 deriving DecidableEq,Inhabited
def kind (s:Bs):Nat:=if (first s).2=s then (first s).1 else 0
def jy (s:Bs):Nat:=if kind s=0 then 4 else 0
def isName (s:Bs):Bool:=kind s == 1
section
variable (s:Bs) (h0:¬ s.length=0)
include h0
theorem oN (h:fF (gt s 0)=true)(k:hasB keywords (s.take (aZ dM s))=true):first s=(3,s.take (aZ dM s)):=by
 rw [first,if_neg h0,if_pos h,if_pos k]
theorem kK (h:fF (gt s 0)=true)(k:¬ hasB keywords (s.take (aZ dM s))=true)(n:aZ dM s≤12):first s=(1,s.take (aZ dM s)):=by
 rw [first,if_neg h0,if_pos h,if_neg k,if_pos n]
theorem oh (h:fF (gt s 0)=true)(k:¬ hasB keywords (s.take (aZ dM s))=true)(n:¬ aZ dM s≤12):first s=(0,[]):=by
 rw [first,if_neg h0,if_pos h,if_neg k,if_neg n]
theorem l9 (h:¬ fF (gt s 0)=true)(d:bJ (gt s 0)=true)(n:iB (s.take (aZ bJ s))=true):first s=(2,s.take (aZ bJ s)):=by
 rw [first,if_neg h0,if_neg h,if_pos d,if_pos n]
theorem oO (h:¬ fF (gt s 0)=true)(d:bJ (gt s 0)=true)(n:¬ iB (s.take (aZ bJ s))=true):first s=(0,[]):=by
 rw [first,if_neg h0,if_neg h,if_pos d,if_neg n]
theorem m_ (h:¬ fF (gt s 0)=true)(d:¬ bJ (gt s 0)=true)(g:Bs)(e:lM s=some g):first s=(4,g):=by
 rw [first,if_neg h0,if_neg h,if_neg d,e]
theorem mZ (h:¬ fF (gt s 0)=true)(d:¬ bJ (gt s 0)=true)(e:lM s=none):first s=(0,[]):=by
 rw [first,if_neg h0,if_neg h,if_neg d,e]
end
theorem rM (s:Bs)(h0:s.length=0):first s=(0,[]):=by rw [first,if_pos h0]
def Dy (s:Bs)(n:Nat):Prop:=∀ g ∈ signs.take n,rR g s=false
theorem OY (s:Bs):Dy s 0:=by intro g a;simp at a
theorem OX (s:Bs)(n:Nat)(h:n < 23)(a:Dy s n)(b:rR (sg signs n) s=false):Dy s (n+1):=by
 intro g c;have d:n < signs.length:=h;rw [List.take_succ_eq_append_getElem d] at c
 rcases List.mem_append.1 c with c | c
 ·exact a g c
 ·rw [acU _ _ d] at b
  have:=List.mem_singleton.1 c
  rw [this];exact b
theorem Ub (s:Bs)(n:Nat)(h:n < 23)(a:Dy s n)(b:rR (sg signs n) s=true):lM s=some (sg signs n):=by
 have c:n < signs.length:=h
 have e:signs=signs.take n ++ sg signs n :: signs.drop (n+1):=by
  rw [acU _ _ c,← amZ c,List.take_append_drop]
 refine (congrArg (List.find? fun g=>rR g s) e).trans ?_;rw [List.find?_append]
 have:(signs.take n).find? (fun g=>rR g s)=none:=by
  rw [List.find?_eq_none];intro g d;rw [a g d];simp
 rw [this];simp [b]
theorem P7 (s:Bs)(a:Dy s 23):lM s=none:=by
 unfold lM;rw [List.find?_eq_none];intro g b;rw [a g b];simp
theorem RH (s:Bs)(h:2000 < s.length):check s=(2000,5):=by simp [check,h]
theorem aaz (s:Bs)(h:s.length≤2000)(a:∀ c ∈ s,iJ c=true):check s=(0,0):=by
 have e:s.findIdx? (fun b=>!iJ b)=none:=by
  rw [List.findIdx?_eq_none_iff];intro c d;simp [a c d]
 simp [check,e];omega
theorem Wy (s:Bs)(n:Nat)(h:s.length≤2000)(d:n < s.length)(e:∀ c ∈ s.take n,iJ c=true)(a:iJ (gt s n)=false):check s=(n,4):=by
 have f:s.findIdx? (fun b=>!iJ b)=some n:=by
  rw [List.findIdx?_eq_some_iff_getElem]
  refine⟨d,by rw [aa1 s n d] at a;simp [a],fun j g=>?_⟩
  have:s[j] ∈ s.take n:=by
   rw [List.mem_take_iff_getElem];exact⟨j,by omega,rfl⟩
  simp [e _ this]
 simp [check,f];omega
theorem Uh (r:Bs):iI false (35 :: r)=iI true (35 :: r):=by simp [iI,xC]
theorem Ug (r:Bs):iI false (10 :: r)=iI true (10 :: r):=by simp [iI,xC]
theorem Ui (l:Bs):iI true l=aZ kM l+iI false (l.drop (aZ kM l)):=by
 induction l with
 | nil=>simp [iI,aZ]
 | cons b r c =>
  by_cases a:b=10
  ·subst a;simp [aZ,kM,Ug]
  ·have:aZ kM (b :: r)=aZ kM r+1:=by unfold aZ;rw [List.takeWhile_cons_of_pos (by simp [kM,a])];rfl
   rw [this];simp [iI,a,c];omega
theorem qW (p:UInt8→Bool)(l:Bs):aZ p l≤l.length:=by
 unfold aZ;exact (List.takeWhile_sublist p).length_le
theorem adb (l:Bs)(n:Nat)(h:n < l.length)(a:xC (gt l n)=true):skip (l.drop n)=1+skip (l.drop (n+1)):=by
 rw [zV l n h];simp [skip,iI,a]
theorem YQ (l:Bs)(n:Nat)(h:n < l.length)(a:gt l n=35):skip (l.drop n)=aZ kM (l.drop n)+skip (l.drop (n+aZ kM (l.drop n))):=by
 have e:skip (l.drop n)=iI true (l.drop n):=by
  rw [zV l n h,a];exact Uh _
 rw [e,Ui,List.drop_drop];rfl
theorem YR (l:Bs)(n:Nat)(h:n < l.length)(a:xC (gt l n)=false)(b:gt l n ≠ 35):skip (l.drop n)=0:=by
 rw [zV l n h];simp [skip,iI,a,b]
theorem ada (l:Bs)(n:Nat)(h:l.length≤n):skip (l.drop n)=0:=by
 rw [List.drop_eq_nil_of_le h];rfl
theorem ac' (b:Bool)(l:Bs):iI b l≤l.length:=by
 induction l generalizing b with
 | nil=>cases b <;> simp [iI]
 | cons c r a =>
  have h1:=a true;have h2:=a false
  cases b <;> simp only [iI,List.length_cons] <;> (repeat' split) <;> omega
theorem VK (l:Bs):skip l≤l.length:=ac' _ _
theorem I8 (l:Bs)(n:Nat)(h:n < l.length)(a:gt l n=35):0 < aZ kM (l.drop n):=by
 rw [zV l n h,a];unfold aZ;rw [List.takeWhile_cons_of_pos (by simp [kM])];simp
end Mist
namespace Mist
def iq:Nat→Bs→Nat→List Tok→List Tok × Nat × Nat
 | 0,_,_,acc=>(acc,0,0)
 | f+1,l,a,acc =>
  if l.length≤a then (acc,0,0) else
  if (first (l.drop a)).1=0 then ([],a,4)
  else if acc.length=800 then ([],a,5)
  else iq f l (a+(first (l.drop a)).2.length+skip (l.drop (a+(first (l.drop a)).2.length))) (acc ++ [⟨(first (l.drop a)).1,(first (l.drop a)).2,(a:Int)⟩])
def read (s:Bs):List Tok × Nat × Nat :=
 if (check s).2 ≠ 0 then ([],(check s).1,(check s).2) else iq (s.length+1) s (skip s) []
theorem Uc (s g:Bs)(h:lM s=some g):0 < g.length∧g.length≤s.length:=by
 have h1:=List.mem_of_find?_eq_some h;have h2:rR g s=true:=List.find?_some (p:=fun g=>rR g s) h
 have:∀ g ∈ signs,0 < g.length:=by decide
 exact⟨this g h1,(List.isPrefixOf_iff_prefix.1 h2).length_le⟩
theorem wY (p:UInt8→Bool)(s:Bs)(h0:¬ s.length=0)(h:p (gt s 0)=true):0 < aZ p s:=by
 cases s with
 | nil=>simp at h0
 | cons b r =>
  have h2:p b=true:=h;unfold aZ;rw [List.takeWhile_cons_of_pos h2];simp
theorem sV (s:Bs)(h:(first s).1 ≠ 0):0 < (first s).2.length∧(first s).2.length≤s.length:=by
 by_cases h0:s.length=0
 ·rw [rM s h0] at h;exact absurd rfl h
 by_cases a:fF (gt s 0)=true
 ·have f:=wY dM s h0 (by simp [dM,a]);have e:=qW dM s;by_cases d:hasB keywords (s.take (aZ dM s))=true
  ·rw [oN s h0 a d];simp;omega
  ·by_cases b:aZ dM s≤12
   ·rw [kK s h0 a d b];simp;omega
   ·rw [oh s h0 a d b] at h;exact absurd rfl h
 ·by_cases hd:bJ (gt s 0)=true
  ·have f:=wY bJ s h0 hd;have e:=qW bJ s;by_cases b:iB (s.take (aZ bJ s))=true
   ·rw [l9 s h0 a hd b];simp;omega
   ·rw [oO s h0 a hd b] at h;exact absurd rfl h
  ·cases c:lM s with
   | none=>rw [mZ s h0 a hd c] at h;exact absurd rfl h
   | some g=>rw [m_ s h0 a hd g c];exact Uc s g c
theorem uF (f:Nat)(l:Bs)(a:Nat)(b:List Tok)(h:l.length≤a):iq (f+1) l a b=(b,0,0):=by rw [iq,if_pos h]
theorem xW (f:Nat)(l:Bs)(a:Nat)(b:List Tok)(h:¬ l.length≤a)(k:(first (l.drop a)).1=0):iq (f+1) l a b=([],a,4):=by rw [iq,if_neg h,if_pos k]
theorem xV (f:Nat)(l:Bs)(a:Nat)(b:List Tok)(h:¬ l.length≤a)(k:¬ (first (l.drop a)).1=0)(c:b.length=800):iq (f+1) l a b=([],a,5):=by rw [iq,if_neg h,if_neg k,if_pos c]
theorem sD (f:Nat)(l:Bs)(a:Nat)(b:List Tok)(h:¬ l.length≤a)(k:¬ (first (l.drop a)).1=0)(c:¬ b.length=800) :
  iq (f+1) l a b=iq f l (a+(first (l.drop a)).2.length+skip (l.drop (a+(first (l.drop a)).2.length))) (b ++ [⟨(first (l.drop a)).1,(first (l.drop a)).2,(a:Int)⟩]):=by
 rw [iq,if_neg h,if_neg k,if_neg c]
end Mist
namespace Mist
def D9 (n:Int):Prop:=-9223372036854775808≤n∧n≤9223372036854775807
def tg (l:List Tok)(k:Nat):Tok:=l.getD k ⟨0,[],0⟩
theorem Ki (l:List Tok)(k:Nat)(h:k < l.length):tg l k=l[k]:=by simp [tg,h]
theorem Md (l:List Tok)(k:Nat)(h:k < l.length):tg l k ∈ l:=by rw [Ki l k h];exact List.getElem_mem h
theorem ae_ (l:List Tok)(n:Nat)(h:n < l.length):l.take (n+1)=l.take n ++ [tg l n]:=by rw [Ki l n h];exact List.take_succ_eq_append_getElem h
end Mist
namespace Mist
theorem abG (s:Bs)(h:kind s ≠ 0):s.length≤12∧0 < s.length:=by
 have a:(first s).2=s∧(first s).1 ≠ 0:=by
  unfold kind at h
  split at h
  ·exact⟨by assumption,h⟩
  ·exact absurd rfl h
 obtain⟨h1,h2⟩:=a;have e:=sV s h2;rw [h1] at e
 refine⟨?_,e.1⟩
 by_cases h0:s.length=0
 ·omega
 by_cases c:fF (gt s 0)=true
 ·by_cases a:hasB keywords (s.take (aZ dM s))=true
  ·rw [oN s h0 c a] at h1
   simp only at h1
   rw [h1] at a
   have:∀ g ∈ keywords,g.length≤12:=by decide
   exact this s (by simpa [hasB] using a)
  ·by_cases b:aZ dM s≤12
   ·rw [kK s h0 c a b] at h1
    simp only at h1
    have:=congrArg List.length h1
    simp at this
    omega
   ·rw [oh s h0 c a b] at h2;exact absurd rfl h2
 ·by_cases hd:bJ (gt s 0)=true
  ·by_cases b:iB (s.take (aZ bJ s))=true
   ·rw [l9 s h0 c hd b] at h1
    simp only at h1
    rw [h1] at b
    simp [iB] at b
    omega
   ·rw [oO s h0 c hd b] at h2;exact absurd rfl h2
  ·cases d:lM s with
   | none=>rw [mZ s h0 c hd d] at h2;exact absurd rfl h2
   | some g =>
    rw [m_ s h0 c hd g d] at h1
    simp only at h1
    rw [h1] at d
    have:∀ g ∈ signs,g.length≤12:=by decide
    exact this s (List.mem_of_find?_eq_some d)
end Mist
namespace Mist
open Go
def digits (acc:Nat)(l:Bs):Nat:=l.foldl (fun n c=>10 * n+(c.toNat - 48)) acc
def numOf (l:Bs):Nat:=digits 0 l
def numberOf (s:Bs):Nat × Nat:=if kind s=2 then (numOf s,0) else (0,4)
theorem Eb (s:Bs)(h:¬ kind s=2):numberOf s=(0,4):=by unfold numberOf;rw [if_neg h]
theorem BJ (s:Bs)(h:kind s=2):numberOf s=(numOf s,0):=by unfold numberOf;rw [if_pos h]
theorem FX (c:UInt8)(h:bJ c=true):48≤c.toNat∧c.toNat≤57:=by
 simpa [bJ,UInt8.le_iff_toNat_le] using h
theorem WJ (l:Bs)(h:∀ c ∈ l,bJ c=true):∀ a,digits a l < (a+1) * 10 ^ l.length:=by
 induction l with
 | nil=>intro a;simp [digits]
 | cons c r b =>
  intro a;have f:=FX c (h c (by simp));have e:digits a (c :: r)=digits (10 * a+(c.toNat - 48)) r:=rfl;rw [e];refine amY (b (fun d hd=>h d (by simp [hd])) _) ?_;rw [List.length_cons,Nat.pow_succ,Nat.mul_comm _ 10,← Nat.mul_assoc];exact Nat.mul_le_mul_right _ (by omega)
theorem ab0 (l:Bs)(h:∀ c ∈ l,bJ c=true)(k:l.length≤4):numOf l < 10000:=by
 have h1:=WJ l h 0;have h2:(10:Nat) ^ l.length≤10 ^ 4:=Nat.pow_le_pow_right (by omega) k;unfold numOf;omega
theorem FW (l:Bs)(h:∀ c ∈ l,bJ c=true):∀ a,Lib.decFrom a l=some (digits a l):=by
 induction l with
 | nil=>intro a;rfl
 | cons c r f =>
  intro a;have b:=FX c (h c (by simp));have e:digits a (c :: r)=digits (10 * a+(c.toNat - 48)) r:=rfl;have hd:Lib.digitVal c=some (c.toNat - 48):=by unfold Lib.digitVal;rw [if_pos b]
  rw [Lib.decFrom,hd,e]
  show Lib.decFrom (a * 10+(c.toNat - 48)) r=_
  rw [Nat.mul_comm];exact f (fun d hd=>h d (by simp [hd])) _
theorem Ns (l:Bs)(h:∀ c ∈ l,bJ c=true)(k:l.length≤4)(k0:0 < l.length):Lib.atoiAll l=.ok (numOf l:Int):=by
 rw [Lib.atoiAll_short l (by omega)]
 have:Lib.atoi l=some (numOf l:Int):=by
  cases l with
  | nil=>simp at k0
  | cons b r =>
   have a:=FX b (h b (by simp))
   have h1:(b == 45)=false:=by
    rw [Bool.eq_false_iff];intro e
    have:=eq_of_beq e;subst this;simp at a
   have h2:(b == 43)=false:=by
    rw [Bool.eq_false_iff];intro e
    have:=eq_of_beq e;subst this;simp at a
   rw [Lib.atoi,h1,h2];simp only [Bool.false_eq_true,if_false];unfold Lib.decNat;rw [if_neg (by simp),FW (b :: r) h 0];rfl
 rw [this];rfl
theorem vS (s:Bs)(h:kind s=2):s.length≤4∧0 < s.length∧∀ c ∈ s,bJ c=true:=by
 have d:(first s).2=s∧(first s).1=2:=by
  unfold kind at h
  split at h
  ·exact⟨by assumption,h⟩
  ·cases h
 obtain⟨h1,h2⟩:=d;by_cases h0:s.length=0
 ·rw [rM s h0] at h2;cases h2
 by_cases a:fF (gt s 0)=true
 ·by_cases d:hasB keywords (s.take (aZ dM s))=true
  ·rw [oN s h0 a d] at h2;cases h2
  ·by_cases b:aZ dM s≤12
   ·rw [kK s h0 a d b] at h2;cases h2
   ·rw [oh s h0 a d b] at h2;cases h2
 ·by_cases hd:bJ (gt s 0)=true
  ·by_cases b:iB (s.take (aZ bJ s))=true
   ·rw [l9 s h0 a hd b] at h1
    simp only at h1
    have e:=b;rw [h1] at e
    have h4:s.length≤4:=by simp [iB] at e;omega
    refine⟨h4,by omega,?_⟩
    have f:s.length≤(s.takeWhile bJ).length:=by
     have:=congrArg List.length h1
     simp [aZ] at this
     omega
    have k:s.takeWhile bJ=s:=(List.takeWhile_prefix bJ).eq_of_length (Nat.le_antisymm (List.takeWhile_prefix bJ).length_le f);have i:=List.all_takeWhile (p:=bJ) (l:=s);rw [k] at i
    simpa using i
   ·rw [oO s h0 a hd b] at h2;cases h2
  ·cases j:lM s with
   | none=>rw [mZ s h0 a hd j] at h2;cases h2
   | some g=>rw [m_ s h0 a hd g j] at h2;cases h2
end Mist
