/-
  A part of the proof.
-/
import Derived.Test.YtflnfhhgamldhaaGreatDoorSA
import Derived.Lib.AtoiTie
set_option linter.all false
set_option maxRecDepth 100000
namespace Mist
abbrev Bs:=List UInt8
def aH (l:Bs):ByteArray:=⟨⟨l⟩⟩
theorem Qo (l:Bs):(aH l).data.toList=l:=rfl
theorem aM (l:Bs):(aH l).size=l.length:=rfl
def gt (l:Bs)(n:Nat):UInt8:=l.getD n 0
theorem aV (l:Bs)(i:Nat)(h:i < (aH l).size):(aH l)[i]'h=gt l i:=by
 have a:i < l.length:=h;simp [gt,a];rfl
theorem Y0 (l:Bs)(n:Nat)(h:n < l.length):gt l n=l[n]:=by simp [gt,h]
theorem Cq (l:Bs)(n k:Nat):gt (l.drop n) k=gt l (n+k):=by simp [gt,akY]
theorem ab7 (l:Bs)(n k:Nat)(h:k < n):gt (l.take n) k=gt l k:=by simp [gt,akY,h]
theorem qZ (l:Bs)(n:Nat)(h:n < l.length):l.drop n=gt l n :: l.drop (n+1):=by rw [Y0 l n h];exact alc h
theorem ac7 (l:Bs)(n:Nat)(h:n < l.length):l.take (n+1)=l.take n ++ [gt l n]:=by rw [Y0 l n h];exact List.take_succ_eq_append_getElem h
theorem acD {l m:Bs}(h:aH l=aH m):l=m:=by
 have:=congrArg (fun s=>s.data.toList) h
 simpa [Qo] using this
theorem ah (l:Bs)(a b:Nat):(aH l).extract a b=aH ((l.take b).drop a):=by
 apply ByteArray.ext
 simp [aH,ByteArray.data_extract,List.extract_toArray,List.extract_eq_take_drop,List.drop_take]
theorem ak (l m:Bs):aH l ++ aH m=aH (l ++ m):=by
 apply ByteArray.ext
 simp [aH,ByteArray.data_append]
theorem acs (s:ByteArray):∀ (k i:Nat) (r:List UInt8),s.size - i=k→ByteArray.toList.loop s i r=r.reverse ++ s.data.toList.drop i:=by
 intro k
 induction k with
 | zero =>
  intro i r h;unfold ByteArray.toList.loop;rw [if_neg (by omega),List.drop_eq_nil_of_le (by rw [Array.length_toList];show s.size≤i;omega)];simp
 | succ k a =>
  intro i r h;unfold ByteArray.toList.loop;have hi:i < s.data.toList.length:=by rw [Array.length_toList];show i < s.size;omega
  rw [if_pos (by omega),a (i+1) _ (by omega),alc hi]
  have:s.get! i=s.data.toList[i]:=by
   show s.data[i]! = _
   rw [getElem!_pos s.data i (by simpa using hi)];rfl
  simp [this]
theorem au (l:Bs):(aH l).toList=l:=by
 have:=acs (aH l) ((aH l).size - 0) 0 [] rfl
 simpa [ByteArray.toList,aH] using this
def hasB (xs:List Bs)(x:Bs):Bool:=xs.contains x
def sg (xs:List Bs)(n:Nat):Bs:=xs.getD n []
theorem Nt (xs:List Bs)(n:Nat)(h:n < xs.length):sg xs n=xs[n]:=by simp [sg,h]
theorem Um (xs:List Bs)(x:Bs)(n:Nat)(h:n < xs.length):hasB (xs.take (n+1)) x=(hasB (xs.take n) x || (x == sg xs n)):=by
 rw [Nt _ _ h,List.take_succ_eq_append_getElem h,hasB,hasB,List.contains_append]
 congr 1
 rw [akZ];simp
theorem ab_ (xs:List Bs)(x:Bs)(n:Nat)(h:n < xs.length)(e:sg xs n=x):hasB xs x=true:=by
 rw [Nt _ _ h] at e
 simp [hasB,← e]
def jd (b:UInt8):Bool:=b == 10 || (32≤b && b≤126)
def check (s:Bs):Nat × Nat :=
 if 2000 < s.length then (2000,5) else
 match s.findIdx? (fun b=>!jd b) with
 | some i=>(i,4)
 | none=>(0,0)
def fZ (b:UInt8):Bool:=97≤b && b≤122
def dw (b:UInt8):Bool:=48≤b && b≤57
def eG (b:UInt8):Bool:=fZ b || dw b
def vQ (b:UInt8):Bool:=b == 32 || b == 10
def kK (b:UInt8):Bool:=b != 10
def bY (p:UInt8→Bool)(s:Bs):Nat:=(s.takeWhile p).length
def jX:Bool→Bs→Nat
 | _,[]=>0
 | false,b :: r=>if vQ b then 1+jX false r else if b == 35 then 1+jX true r else 0
 | true,b :: r=>if b == 10 then 1+jX false r else 1+jX true r
def skip (s:Bs):Nat:=jX false s
def iP (s:Bs):Bool:=decide (s.length≤4) && (s.length == 1 || gt s 0 != 48)
def keywords:List Bs:=[[97,110,100],[97,115,107],[98,108,97,109,101],[98,111,111,108],[98,111,117,110,100,115],[99,104,111,111,115,101],[99,111,117,110,116],[101,108,115,101],[102,97,108,115,101],[102,117,110],[105,102],[105,110],[105,110,116],[108,101,116],[108,111,111,107],[109,97,121],[109,117,115,116],[110,111,116],[111,98,115,101,114,118,101],[111,114],[114,101,116,114,97,99,116],[116,104,101,110],[116,114,117,101],[116,121,112,101],[117,112,116,111],[118,97,108,117,101,115],[119,104,121]]
def signs:List Bs:=[[61,61],[33,61],[60,61],[62,61],[46,46],[43],[45],[42],[47],[37],[60],[62],[61],[40],[41],[91],[93],[123],[125],[44],[58],[59],[46]]
def sG (g s:Bs):Bool:=g.isPrefixOf s
def pK (s:Bs):Option Bs:=signs.find? (fun g=>sG g s)
def first (s:Bs):Nat × Bs :=
 if s.length=0 then (0,[]) else
 if fZ (gt s 0)=true then
  if hasB keywords (s.take (bY eG s))=true then (3,s.take (bY eG s))
  else if bY eG s≤12 then (1,s.take (bY eG s)) else (0,[])
 else if dw (gt s 0)=true then
  if iP (s.take (bY dw s))=true then (2,s.take (bY dw s)) else (0,[])
 else match pK s with
  | some g=>(4,g)
  | none=>(0,[])
structure Tok where
 kind:Nat
 text:Bs
 at_:Int
 deriving DecidableEq,Inhabited
def kind (s:Bs):Nat:=if (first s).2=s then (first s).1 else 0
def iK (s:Bs):Nat:=if kind s=0 then 4 else 0
def isName (s:Bs):Bool:=kind s == 1
section
variable (s:Bs) (h0:¬ s.length=0)
include h0
theorem qx (h:fZ (gt s 0)=true)(k:hasB keywords (s.take (bY eG s))=true):first s=(3,s.take (bY eG s)):=by
 rw [first,if_neg h0,if_pos h,if_pos k]
theorem lS (h:fZ (gt s 0)=true)(k:¬ hasB keywords (s.take (bY eG s))=true)(n:bY eG s≤12):first s=(1,s.take (bY eG s)):=by
 rw [first,if_neg h0,if_pos h,if_neg k,if_pos n]
theorem nZ (h:fZ (gt s 0)=true)(k:¬ hasB keywords (s.take (bY eG s))=true)(n:¬ bY eG s≤12):first s=(0,[]):=by
 rw [first,if_neg h0,if_pos h,if_neg k,if_neg n]
theorem mg (h:¬ fZ (gt s 0)=true)(d:dw (gt s 0)=true)(n:iP (s.take (bY dw s))=true):first s=(2,s.take (bY dw s)):=by
 rw [first,if_neg h0,if_neg h,if_pos d,if_pos n]
theorem lT (h:¬ fZ (gt s 0)=true)(d:dw (gt s 0)=true)(n:¬ iP (s.take (bY dw s))=true):first s=(0,[]):=by
 rw [first,if_neg h0,if_neg h,if_pos d,if_neg n]
theorem oh (h:¬ fZ (gt s 0)=true)(d:¬ dw (gt s 0)=true)(g:Bs)(e:pK s=some g):first s=(4,g):=by
 rw [first,if_neg h0,if_neg h,if_neg d,e]
theorem n_ (h:¬ fZ (gt s 0)=true)(d:¬ dw (gt s 0)=true)(e:pK s=none):first s=(0,[]):=by
 rw [first,if_neg h0,if_neg h,if_neg d,e]
end
theorem oU (s:Bs)(h0:s.length=0):first s=(0,[]):=by rw [first,if_pos h0]
theorem Pv (s:Bs)(h:(first s).1=0):(first s).2=[]:=by
 unfold first at h ⊢
 split
 ·rfl
 ·rename_i h0
  rw [if_neg h0] at h
  split
  ·rename_i h1
   rw [if_pos h1] at h
   split
   ·rename_i h2;rw [if_pos h2] at h;simp at h
   ·rename_i h2
    rw [if_neg h2] at h
    split
    ·rename_i h3;rw [if_pos h3] at h;simp at h
    ·rfl
  ·rename_i h1
   rw [if_neg h1] at h
   split
   ·rename_i h2
    rw [if_pos h2] at h
    split
    ·rename_i h3;rw [if_pos h3] at h;simp at h
    ·rfl
   ·rename_i h2
    rw [if_neg h2] at h
    cases a:pK s with
    | none=>rfl
    | some g=>rw [a] at h;simp at h
def wM (s:Bs)(n:Nat):Prop:=∀ g ∈ signs.take n,sG g s=false
theorem BD (s:Bs):wM s 0:=by intro g a;simp at a
theorem uU (s:Bs)(n:Nat)(h:n < 23)(a:wM s n)(b:sG (sg signs n) s=false):wM s (n+1):=by
 intro g c;have d:n < signs.length:=h;rw [List.take_succ_eq_append_getElem d] at c
 rcases List.mem_append.1 c with c | c
 ·exact a g c
 ·rw [Nt _ _ d] at b
  have:=List.mem_singleton.1 c
  rw [this];exact b
theorem Fu (s:Bs)(n:Nat)(h:n < 23)(a:wM s n)(b:sG (sg signs n) s=true):pK s=some (sg signs n):=by
 have c:n < signs.length:=h
 have e:signs=signs.take n ++ sg signs n :: signs.drop (n+1):=by
  rw [Nt _ _ c,← alc c,List.take_append_drop]
 refine (congrArg (List.find? fun g=>sG g s) e).trans ?_;rw [List.find?_append]
 have:(signs.take n).find? (fun g=>sG g s)=none:=by
  rw [List.find?_eq_none];intro g d;rw [a g d];simp
 rw [this];simp [b]
theorem BL (s:Bs)(a:wM s 23):pK s=none:=by
 unfold pK;rw [List.find?_eq_none];intro g b;rw [a g b];simp
theorem DC (s:Bs)(h:2000 < s.length):check s=(2000,5):=by simp [check,h]
theorem K7 (s:Bs)(h:s.length≤2000)(a:∀ c ∈ s,jd c=true):check s=(0,0):=by
 have e:s.findIdx? (fun b=>!jd b)=none:=by
  rw [List.findIdx?_eq_none_iff];intro c d;simp [a c d]
 simp [check,e];omega
theorem zR (s:Bs)(n:Nat)(h:s.length≤2000)(d:n < s.length)(e:∀ c ∈ s.take n,jd c=true)(a:jd (gt s n)=false):check s=(n,4):=by
 have f:s.findIdx? (fun b=>!jd b)=some n:=by
  rw [List.findIdx?_eq_some_iff_getElem]
  refine⟨d,by rw [Y0 s n d] at a;simp [a],fun j g=>?_⟩
  have:s[j] ∈ s.take n:=by
   rw [List.mem_take_iff_getElem];exact⟨j,by omega,rfl⟩
  simp [e _ this]
 simp [check,f];omega
theorem Fz (r:Bs):jX false (35 :: r)=jX true (35 :: r):=by simp [jX,vQ]
theorem Fy (r:Bs):jX false (10 :: r)=jX true (10 :: r):=by simp [jX,vQ]
theorem Q_ (l:Bs):jX true l=bY kK l+jX false (l.drop (bY kK l)):=by
 induction l with
 | nil=>simp [jX,bY]
 | cons b r c =>
  by_cases a:b=10
  ·subst a;simp [bY,kK,Fy]
  ·have:bY kK (b :: r)=bY kK r+1:=by unfold bY;rw [List.takeWhile_cons_of_pos (by simp [kK,a])];rfl
   rw [this];simp [jX,a,c];omega
theorem qL (p:UInt8→Bool)(l:Bs):bY p l≤l.length:=by
 unfold bY;exact (List.takeWhile_sublist p).length_le
theorem FB (l:Bs)(n:Nat)(h:n < l.length)(a:vQ (gt l n)=true):skip (l.drop n)=1+skip (l.drop (n+1)):=by
 rw [qZ l n h];simp [skip,jX,a]
theorem WA (l:Bs)(n:Nat)(h:n < l.length)(a:gt l n=35):skip (l.drop n)=bY kK (l.drop n)+skip (l.drop (n+bY kK (l.drop n))):=by
 have e:skip (l.drop n)=jX true (l.drop n):=by
  rw [qZ l n h,a];exact Fz _
 rw [e,Q_,List.drop_drop];rfl
theorem Im (l:Bs)(n:Nat)(h:n < l.length)(a:vQ (gt l n)=false)(b:gt l n ≠ 35):skip (l.drop n)=0:=by
 rw [qZ l n h];simp [skip,jX,a,b]
theorem NC (l:Bs)(n:Nat)(h:l.length≤n):skip (l.drop n)=0:=by
 rw [List.drop_eq_nil_of_le h];rfl
theorem abl (b:Bool)(l:Bs):jX b l≤l.length:=by
 induction l generalizing b with
 | nil=>cases b <;> simp [jX]
 | cons c r a =>
  have h1:=a true;have h2:=a false
  cases b <;> simp only [jX,List.length_cons] <;> (repeat' split) <;> omega
theorem Cx (l:Bs):skip l≤l.length:=abl _ _
theorem Gi (l:Bs)(n:Nat)(h:n < l.length)(a:gt l n=35):0 < bY kK (l.drop n):=by
 rw [qZ l n h,a];unfold bY;rw [List.takeWhile_cons_of_pos (by simp [kK])];simp
theorem Rc (l:Bs)(n:Nat)(h:n < l.length)(a:gt l n ≠ 10):jX true (l.drop n)=1+jX true (l.drop (n+1)):=by
 rw [qZ l n h];simp [jX,a]
theorem Ra (l:Bs)(n:Nat)(h:n < l.length)(a:gt l n=10):jX true (l.drop n)=skip (l.drop n):=by
 rw [qZ l n h,a];exact (Fy _).symm
theorem Rb (l:Bs)(n:Nat)(h:n < l.length)(a:gt l n=35):jX true (l.drop n)=skip (l.drop n):=by
 rw [qZ l n h,a];exact (Fz _).symm
theorem Wz (l:Bs)(n:Nat)(h:l.length≤n):jX true (l.drop n)=skip (l.drop n):=by
 rw [List.drop_eq_nil_of_le h];rfl
end Mist
namespace Mist
def gY:Nat→Bs→Nat→List Tok→List Tok × Nat × Nat
 | 0,_,_,acc=>(acc,0,0)
 | f+1,l,a,acc =>
  if l.length≤a then (acc,0,0) else
  if (first (l.drop a)).1=0 then ([],a,4)
  else if acc.length=800 then ([],a,5)
  else gY f l (a+(first (l.drop a)).2.length+skip (l.drop (a+(first (l.drop a)).2.length))) (acc ++ [⟨(first (l.drop a)).1,(first (l.drop a)).2,(a:Int)⟩])
def read (s:Bs):List Tok × Nat × Nat :=
 if (check s).2 ≠ 0 then ([],(check s).1,(check s).2) else gY (s.length+1) s (skip s) []
theorem Q7 (s g:Bs)(h:pK s=some g):0 < g.length∧g.length≤s.length:=by
 have h1:=List.mem_of_find?_eq_some h;have h2:sG g s=true:=List.find?_some (p:=fun g=>sG g s) h
 have:∀ g ∈ signs,0 < g.length:=by decide
 exact⟨this g h1,(List.isPrefixOf_iff_prefix.1 h2).length_le⟩
theorem vI (p:UInt8→Bool)(s:Bs)(h0:¬ s.length=0)(h:p (gt s 0)=true):0 < bY p s:=by
 cases s with
 | nil=>simp at h0
 | cons b r =>
  have h2:p b=true:=h;unfold bY;rw [List.takeWhile_cons_of_pos h2];simp
theorem rX (s:Bs)(h:(first s).1 ≠ 0):0 < (first s).2.length∧(first s).2.length≤s.length:=by
 by_cases h0:s.length=0
 ·rw [oU s h0] at h;exact absurd rfl h
 by_cases a:fZ (gt s 0)=true
 ·have f:=vI eG s h0 (by simp [eG,a]);have e:=qL eG s;by_cases d:hasB keywords (s.take (bY eG s))=true
  ·rw [qx s h0 a d];simp;omega
  ·by_cases b:bY eG s≤12
   ·rw [lS s h0 a d b];simp;omega
   ·rw [nZ s h0 a d b] at h;exact absurd rfl h
 ·by_cases hd:dw (gt s 0)=true
  ·have f:=vI dw s h0 hd;have e:=qL dw s;by_cases b:iP (s.take (bY dw s))=true
   ·rw [mg s h0 a hd b];simp;omega
   ·rw [lT s h0 a hd b] at h;exact absurd rfl h
  ·cases c:pK s with
   | none=>rw [n_ s h0 a hd c] at h;exact absurd rfl h
   | some g=>rw [oh s h0 a hd g c];exact Q7 s g c
theorem qd (f:Nat)(l:Bs)(a:Nat)(b:List Tok)(h:l.length≤a):gY (f+1) l a b=(b,0,0):=by rw [gY,if_pos h]
theorem oL (f:Nat)(l:Bs)(a:Nat)(b:List Tok)(h:¬ l.length≤a)(k:(first (l.drop a)).1=0):gY (f+1) l a b=([],a,4):=by rw [gY,if_neg h,if_pos k]
theorem oK (f:Nat)(l:Bs)(a:Nat)(b:List Tok)(h:¬ l.length≤a)(k:¬ (first (l.drop a)).1=0)(c:b.length=800):gY (f+1) l a b=([],a,5):=by rw [gY,if_neg h,if_neg k,if_pos c]
theorem oM (f:Nat)(l:Bs)(a:Nat)(b:List Tok)(h:¬ l.length≤a)(k:¬ (first (l.drop a)).1=0)(c:¬ b.length=800) :
  gY (f+1) l a b=gY f l (a+(first (l.drop a)).2.length+skip (l.drop (a+(first (l.drop a)).2.length))) (b ++ [⟨(first (l.drop a)).1,(first (l.drop a)).2,(a:Int)⟩]):=by
 rw [gY,if_neg h,if_neg k,if_neg c]
end Mist
namespace Mist
def Br (n:Int):Prop:=-9223372036854775808≤n∧n≤9223372036854775807
def tg (l:List Tok)(k:Nat):Tok:=l.getD k ⟨0,[],0⟩
theorem ahb (l:List Tok)(k:Nat)(h:k < l.length):tg l k=l[k]:=by simp [tg,h]
theorem tu (l:List Tok)(k:Nat)(h:k < l.length):tg l k ∈ l:=by rw [ahb l k h];exact List.getElem_mem h
end Mist
namespace Mist
theorem ZO (s:Bs)(h:kind s ≠ 0):s.length≤12∧0 < s.length:=by
 have a:(first s).2=s∧(first s).1 ≠ 0:=by
  unfold kind at h
  split at h
  ·exact⟨by assumption,h⟩
  ·exact absurd rfl h
 obtain⟨h1,h2⟩:=a;have e:=rX s h2;rw [h1] at e
 refine⟨?_,e.1⟩
 by_cases h0:s.length=0
 ·omega
 by_cases c:fZ (gt s 0)=true
 ·by_cases a:hasB keywords (s.take (bY eG s))=true
  ·rw [qx s h0 c a] at h1
   simp only at h1
   rw [h1] at a
   have:∀ g ∈ keywords,g.length≤12:=by decide
   exact this s (by simpa [hasB] using a)
  ·by_cases b:bY eG s≤12
   ·rw [lS s h0 c a b] at h1
    simp only at h1
    have:=congrArg List.length h1
    simp at this
    omega
   ·rw [nZ s h0 c a b] at h2;exact absurd rfl h2
 ·by_cases hd:dw (gt s 0)=true
  ·by_cases b:iP (s.take (bY dw s))=true
   ·rw [mg s h0 c hd b] at h1
    simp only at h1
    rw [h1] at b
    simp [iP] at b
    omega
   ·rw [lT s h0 c hd b] at h2;exact absurd rfl h2
  ·cases d:pK s with
   | none=>rw [n_ s h0 c hd d] at h2;exact absurd rfl h2
   | some g =>
    rw [oh s h0 c hd g d] at h1
    simp only at h1
    rw [h1] at d
    have:∀ g ∈ signs,g.length≤12:=by decide
    exact this s (List.mem_of_find?_eq_some d)
end Mist
namespace Mist
open Go
def digits (acc:Nat)(l:Bs):Nat:=l.foldl (fun n c=>10 * n+(c.toNat - 48)) acc
def numOf (l:Bs):Nat:=digits 0 l
def numberOf (s:Bs):Nat × Nat:=if kind s=2 then (numOf s,0) else (0,4)
theorem oW (s:Bs)(h:¬ kind s=2):numberOf s=(0,4):=by unfold numberOf;rw [if_neg h]
theorem nM (s:Bs)(h:kind s=2):numberOf s=(numOf s,0):=by unfold numberOf;rw [if_pos h]
theorem yh (c:UInt8)(h:dw c=true):48≤c.toNat∧c.toNat≤57:=by
 simpa [dw,UInt8.le_iff_toNat_le] using h
theorem Ub (l:Bs)(h:∀ c ∈ l,dw c=true):∀ a,digits a l < (a+1) * 10 ^ l.length:=by
 induction l with
 | nil=>intro a;simp [digits]
 | cons c r b =>
  intro a;have f:=yh c (h c (by simp));have e:digits a (c :: r)=digits (10 * a+(c.toNat - 48)) r:=rfl;rw [e];refine alb (b (fun d hd=>h d (by simp [hd])) _) ?_;rw [List.length_cons,Nat.pow_succ,Nat.mul_comm _ 10,← Nat.mul_assoc];exact Nat.mul_le_mul_right _ (by omega)
theorem K9 (a:Nat)(l:Bs)(c:UInt8):digits a (l ++ [c])=10 * digits a l+(c.toNat - 48):=by simp [digits]
theorem yN (l:Bs)(h:∀ c ∈ l,dw c=true)(k:l.length≤4):numOf l < 10000:=by
 have h1:=Ub l h 0;have h2:(10:Nat) ^ l.length≤10 ^ 4:=Nat.pow_le_pow_right (by omega) k;unfold numOf;omega
theorem DK (l:Bs)(h:∀ c ∈ l,dw c=true):∀ a,Lib.decFrom a l=some (digits a l):=by
 induction l with
 | nil=>intro a;rfl
 | cons c r f =>
  intro a;have b:=yh c (h c (by simp));have e:digits a (c :: r)=digits (10 * a+(c.toNat - 48)) r:=rfl;have hd:Lib.digitVal c=some (c.toNat - 48):=by unfold Lib.digitVal;rw [if_pos b]
  rw [Lib.decFrom,hd,e]
  show Lib.decFrom (a * 10+(c.toNat - 48)) r=_
  rw [Nat.mul_comm];exact f (fun d hd=>h d (by simp [hd])) _
theorem KU (l:Bs)(h:∀ c ∈ l,dw c=true)(k:l.length≤4)(k0:0 < l.length):Lib.atoiAll l=.ok (numOf l:Int):=by
 rw [Lib.atoiAll_short l (by omega)]
 have:Lib.atoi l=some (numOf l:Int):=by
  cases l with
  | nil=>simp at k0
  | cons b r =>
   have a:=yh b (h b (by simp))
   have h1:(b == 45)=false:=by
    rw [Bool.eq_false_iff];intro e
    have:=eq_of_beq e;subst this;simp at a
   have h2:(b == 43)=false:=by
    rw [Bool.eq_false_iff];intro e
    have:=eq_of_beq e;subst this;simp at a
   rw [Lib.atoi,h1,h2];simp only [Bool.false_eq_true,if_false];unfold Lib.decNat;rw [if_neg (by simp),DK (b :: r) h 0];rfl
 rw [this];rfl
theorem uT (s:Bs)(h:kind s=2):s.length≤4∧0 < s.length∧∀ c ∈ s,dw c=true:=by
 have d:(first s).2=s∧(first s).1=2:=by
  unfold kind at h
  split at h
  ·exact⟨by assumption,h⟩
  ·cases h
 obtain⟨h1,h2⟩:=d;by_cases h0:s.length=0
 ·rw [oU s h0] at h2;cases h2
 by_cases a:fZ (gt s 0)=true
 ·by_cases d:hasB keywords (s.take (bY eG s))=true
  ·rw [qx s h0 a d] at h2;cases h2
  ·by_cases b:bY eG s≤12
   ·rw [lS s h0 a d b] at h2;cases h2
   ·rw [nZ s h0 a d b] at h2;cases h2
 ·by_cases hd:dw (gt s 0)=true
  ·by_cases b:iP (s.take (bY dw s))=true
   ·rw [mg s h0 a hd b] at h1
    simp only at h1
    have e:=b;rw [h1] at e
    have h4:s.length≤4:=by simp [iP] at e;omega
    refine⟨h4,by omega,?_⟩
    have f:s.length≤(s.takeWhile dw).length:=by
     have:=congrArg List.length h1
     simp [bY] at this
     omega
    have k:s.takeWhile dw=s:=(List.takeWhile_prefix dw).eq_of_length (Nat.le_antisymm (List.takeWhile_prefix dw).length_le f);have i:=List.all_takeWhile (p:=dw) (l:=s);rw [k] at i
    simpa using i
   ·rw [lT s h0 a hd b] at h2;cases h2
  ·cases j:pK s with
   | none=>rw [n_ s h0 a hd j] at h2;cases h2
   | some g=>rw [oh s h0 a hd g j] at h2;cases h2
theorem Qk (l:Bs)(n:Nat)(h:n < l.length):numOf (l.take (n+1))=10 * numOf (l.take n)+((gt l n).toNat - 48):=by
 rw [List.take_succ_eq_append_getElem h];unfold numOf;rw [K9];simp [gt,h]
theorem aeN (l:Bs)(n:Nat)(h:n < l.length):gt l n ∈ l:=by
 have:gt l n=l[n]:=by simp [gt,h]
 rw [this];exact List.getElem_mem h
end Mist
namespace Mist
theorem mU (l:List Tok)(k:Nat)(h:l.length≤k):tg l k=⟨0,[],0⟩:=by simp [tg,h]
structure Nd where
 kind:Nat
 text:Bs
 n:Int
 kids:List Int
 at_:Int
 deriving DecidableEq,Inhabited
inductive kX
 | ok (r:List Int) (k:Nat) (ns:List Nd)
 | bad (k:Nat)
 deriving DecidableEq
def thn:Option kX→(List Int→Nat→List Nd→Option kX)→Option kX
 | none,_=>none
 | some (.bad k),_=>some (.bad k)
 | some (.ok r k ns),f=>f r k ns
def hd (r:List Int):Int:=r.headD 0
def add (n:Nd)(k:Nat)(ns:List Nd):Option kX:=some (.ok [(ns.length:Int)] k (ns ++ [n]))
inductive Lv | or | and | not | cmp | sum | term | unary
 deriving DecidableEq
inductive El | expr | put | param
 deriving DecidableEq
inductive Job
 | expr | lv (v:Lv) | tail (v:Lv) (a:Int) | post | jq (a:Int) | atom
 | put | param | typ | list (e:El) | gQ (e:El) (acc:List Int)
 deriving DecidableEq
def El.job:El→Job
 | .expr=>.expr
 | .put=>.put
 | .param=>.param
def Lv.below:Lv→Lv
 | .or=>.and
 | .and=>.not
 | .not=>.cmp
 | .cmp=>.sum
 | .sum=>.term
 | _=>.unary
def iJ:Lv→Bs→Nat
 | .or,s=>if s=[111,114] then 18 else 0
 | .and,s=>if s=[97,110,100] then 17 else 0
 | .cmp,s=>if s=[61,61] then 11 else if s=[33,61] then 12 else if s=[60] then 13 else if s=[60,61] then 14 else if s=[62] then 15 else if s=[62,61] then 16 else 0
 | .sum,s=>if s=[43] then 6 else if s=[45] then 7 else 0
 | .term,s=>if s=[42] then 8 else if s=[47] then 9 else if s=[37] then 10 else 0
 | _,_=>0
section
variable (l:List Tok) (en:Int)
def tx (k:Nat):Bs:=(tg l k).text
def pl (k:Nat):Int:=if k < l.length then (tg l k).at_ else en
def need (s:Bs)(k:Nat)(f:Option kX):Option kX:=if tx l k=s then f else some (.bad k)
def dQ (c:Nat)(k:Nat)(f:Option kX):Option kX:=if (tg l k).kind=c then f else some (.bad k)
def run:Nat→Job→Nat→List Nd→Option kX
 | 0,_,_,_=>none
 | n+1,.expr,k,ns =>
  if tx l k=[105,102] then
   thn (run n .expr (k+1) ns) fun a k1 cO=>need l [116,104,101,110] k1 <| thn (run n .expr (k1+1) cO) fun b k2 jg=>need l [101,108,115,101] k2 <|
    thn (run n .expr (k2+1) jg) fun c k3 AB=>add ⟨19,[],0,[hd a,hd b,hd c],pl l en k⟩ k3 AB
  else if tx l k=[108,101,116] then
   dQ l 1 (k+1) <| need l [61] (k+2) <| thn (run n .expr (k+3) ns) fun a k1 cO=>need l [105,110] k1 <|
    thn (run n .expr (k1+1) cO) fun b k2 jg=>add ⟨20,tx l (k+1),0,[hd a,hd b],pl l en k⟩ k2 jg
  else run n (.lv .or) k ns
 | n+1,.lv .not,k,ns =>
  if tx l k=[110,111,116] then thn (run n (.lv .not) (k+1) ns) fun a k1 cO=>add ⟨5,[],0,[hd a],pl l en k⟩ k1 cO
  else run n (.lv .cmp) k ns
 | n+1,.lv .unary,k,ns =>
  if tx l k=[45] then thn (run n (.lv .unary) (k+1) ns) fun a k1 cO=>add ⟨4,[],0,[hd a],pl l en k⟩ k1 cO
  else run n .post k ns
 | n+1,.lv v,k,ns=>thn (run n (.lv v.below) k ns) fun a k1 cO=>run n (.tail v (hd a)) k1 cO
 | n+1,.tail v a,k,ns =>
  if iJ v (tx l k)=0 then some (.ok [a] k ns)
  else thn (run n (.lv v.below) (k+1) ns) fun b k1 cO=>thn (add ⟨iJ v (tx l k),[],0,[a,hd b],pl l en k⟩ k1 cO) fun c k2 jg =>
   if v=.cmp then some (.ok [hd c] k2 jg) else run n (.tail v (hd c)) k2 jg
 | n+1,.post,k,ns=>thn (run n .atom k ns) fun a k1 cO=>run n (.jq (hd a)) k1 cO
 | n+1,.jq a,k,ns =>
  if tx l k=[46] then
   dQ l 1 (k+1) <| thn (add ⟨22,tx l (k+1),0,[a],pl l en k⟩ (k+2) ns) fun c k1 cO=>run n (.jq (hd c)) k1 cO
  else if tx l k=[91] then
   thn (run n .expr (k+1) ns) fun b k1 cO=>need l [93] k1 <| thn (add ⟨23,[],0,[a,hd b],pl l en k⟩ (k1+1) cO) fun c k2 jg=>run n (.jq (hd c)) k2 jg
  else some (.ok [a] k ns)
 | n+1,.atom,k,ns =>
  if (tg l k).kind=2 then add ⟨1,[],numOf (tx l k),[],pl l en k⟩ (k+1) ns
  else if tx l k=[116,114,117,101] then add ⟨2,[],1,[],pl l en k⟩ (k+1) ns
  else if tx l k=[102,97,108,115,101] then add ⟨2,[],0,[],pl l en k⟩ (k+1) ns
  else if tx l k=[40] then thn (run n .expr (k+1) ns) fun a k1 cO=>need l [41] k1 <| some (.ok [hd a] (k1+1) cO)
  else if tx l k=[91] then thn (run n (.list .expr) (k+1) ns) fun as k1 cO=>need l [93] k1 <| add ⟨26,[],0,as,pl l en k⟩ (k1+1) cO
  else dQ l 1 k <|
   if tx l (k+1)=[40] then
    if tx l (k+2)=[41] then add ⟨21,tx l k,0,[],pl l en k⟩ (k+3) ns
    else thn (run n (.list .expr) (k+2) ns) fun as k1 cO=>need l [41] k1 <| add ⟨21,tx l k,0,as,pl l en k⟩ (k1+1) cO
   else if tx l (k+1)=[123] then
    thn (run n (.list .put) (k+2) ns) fun as k1 cO=>need l [125] k1 <| add ⟨24,tx l k,0,as,pl l en k⟩ (k1+1) cO
   else add ⟨3,tx l k,0,[],pl l en k⟩ (k+1) ns
 | n+1,.put,k,ns=>dQ l 1 k <| need l [58] (k+1) <| thn (run n .expr (k+2) ns) fun a k1 cO=>add ⟨25,tx l k,0,[hd a],pl l en k⟩ k1 cO
 | n+1,.param,k,ns=>dQ l 1 k <| need l [58] (k+1) <| thn (run n .typ (k+2) ns) fun a k1 cO=>add ⟨34,tx l k,0,[hd a],pl l en k⟩ k1 cO
 | n+1,.typ,k,ns =>
  if tx l k=[105,110,116] then add ⟨30,[],0,[],pl l en k⟩ (k+1) ns
  else if tx l k=[98,111,111,108] then add ⟨31,[],0,[],pl l en k⟩ (k+1) ns
  else if tx l k=[91] then
   thn (run n .typ (k+1) ns) fun a k1 cO=>need l [59] k1 <| dQ l 2 (k1+1) <| need l [93] (k1+2) <| add ⟨33,[],numOf (tx l (k1+1)),[hd a],pl l en k⟩ (k1+3) cO
  else dQ l 1 k <| add ⟨32,tx l k,0,[],pl l en k⟩ (k+1) ns
 | n+1,.list e,k,ns=>thn (run n e.job k ns) fun a k1 cO=>run n (.gQ e [hd a]) k1 cO
 | n+1,.gQ e acc,k,ns =>
  if tx l k=[44] then thn (run n e.job (k+1) ns) fun a k1 cO=>run n (.gQ e (acc ++ [hd a])) k1 cO
  else some (.ok acc k ns)
def uR (k:Nat)(ns:List Nd):Option kX :=
 if tx l k=[45] then dQ l 2 (k+1) <| add ⟨1,[],-(numOf (tx l (k+1)):Int),[],pl l en k⟩ (k+2) ns
 else dQ l 2 k <| add ⟨1,[],numOf (tx l k),[],pl l en k⟩ (k+1) ns
def gZ (s:Bs):Nat :=
 if s=[109,117,115,116] then 1 else if s=[109,97,121] then 2 else if s=[99,111,117,110,116] then 3 else if s=[98,111,117,110,100,115] then 4 else if s=[118,97,108,117,101,115] then 5 else if s=[119,104,121] then 6 else if s=[98,108,97,109,101] then 7 else if s=[108,111,111,107] then 8 else 0
def mQ (n k:Nat)(ps:List Int)(t u:Int)(k3:Nat)(ns:List Nd):Option kX :=
 need l [61] k3 <| thn (run l en n .expr (k3+1) ns) fun b k4 Sk=>add ⟨42,tx l (k+1),u,ps ++ [t] ++ [hd b],pl l en k⟩ k4 Sk
def oJ (n k:Nat)(ps:List Int)(k1:Nat)(cO:List Nd):Option kX :=
 need l [41] k1 <| need l [58] (k1+1) <| thn (run l en n .typ (k1+2) cO) fun t k2 jg =>
  if tx l k2=[117,112,116,111] then
   if tx l (k2+1)=[48] then some (.bad (k2+1))
   else dQ l 2 (k2+1) <| mQ l en n k ps (hd t) (numOf (tx l (k2+1))) (k2+2) jg
  else mQ l en n k ps (hd t) 0 k2 jg
def A_ (n k:Nat)(ns:List Nd):Option kX :=
 if gZ (tx l (k+1))=0 then some (.bad (k+1))
 else if gZ (tx l (k+1))=7 then add ⟨46,[],7,[],pl l en k⟩ (k+2) ns
 else if gZ (tx l (k+1))=8 then thn (run l en n (.list .expr) (k+2) ns) fun as k1 cO=>add ⟨46,[],8,as,pl l en k⟩ k1 cO
 else thn (run l en n .expr (k+2) ns) fun a k1 cO=>add ⟨46,[],(gZ (tx l (k+1)):Nat),[hd a],pl l en k⟩ k1 cO
inductive It | choose | record | zY | Az | observe | mD | ask
 deriving DecidableEq
def F6 (s:Bs):Option It :=
 if s=[99,104,111,111,115,101] then some .choose else if s=[116,121,112,101] then some .record else if s=[102,117,110] then some .zY else if s=[108,101,116] then some .Az else if s=[111,98,115,101,114,118,101] then some .observe else if s=[114,101,116,114,97,99,116] then some .mD else if s=[97,115,107] then some .ask else none
def iq (n:Nat):It→Nat→List Nd→Option kX
 | .choose,k,ns=>dQ l 1 (k+1) <| need l [58] (k+2) <| thn (uR l en (k+3) ns) fun a k1 cO=>need l [46,46] k1 <| thn (uR l en (k1+1) cO) fun b k2 jg=>add ⟨40,tx l (k+1),0,[hd a,hd b],pl l en k⟩ k2 jg
 | .record,k,ns=>dQ l 1 (k+1) <| need l [61] (k+2) <| need l [123] (k+3) <| thn (run l en n (.list .param) (k+4) ns) fun as k1 cO=>need l [125] k1 <| add ⟨41,tx l (k+1),0,as,pl l en k⟩ (k1+1) cO
 | .zY,k,ns=>dQ l 1 (k+1) <| need l [40] (k+2) <|
   if tx l (k+3)=[41] then oJ l en n k [] (k+3) ns else thn (run l en n (.list .param) (k+3) ns) fun ps k1 cO=>oJ l en n k ps k1 cO
 | .Az,k,ns=>dQ l 1 (k+1) <| need l [61] (k+2) <| thn (run l en n .expr (k+3) ns) fun a k1 cO=>add ⟨43,tx l (k+1),0,[hd a],pl l en k⟩ k1 cO
 | .observe,k,ns=>dQ l 1 (k+1) <| need l [58] (k+2) <| thn (run l en n .expr (k+3) ns) fun a k1 cO=>add ⟨44,tx l (k+1),0,[hd a],pl l en k⟩ k1 cO
 | .mD,k,ns=>dQ l 1 (k+1) <| add ⟨45,tx l (k+1),0,[],pl l en k⟩ (k+2) ns
 | .ask,k,ns=>A_ l en n k ns
def item (n k:Nat)(ns:List Nd):Option kX :=
 if (tg l k).kind=3 then
  match F6 (tx l k) with
  | some i=>iq l en n i k ns
  | none=>some (.bad k)
 else some (.bad k)
def prog (n:Nat):Nat→Nat→List Nd→List Int→Option kX
 | 0,_,_,_=>none
 | m+1,k,ns,its =>
  if k < l.length then thn (item l en n k ns) fun a k1 cO=>need l [59] k1 <| prog n m (k1+1) cO (its ++ [hd a])
  else some (.ok its k ns)
end
def Job.rank:Job→Nat
 | .list _=>12
 | .expr=>11
 | .put=>11
 | .param=>11
 | .lv .or=>10
 | .lv .and=>9
 | .lv .not=>8
 | .lv .cmp=>7
 | .lv .sum=>6
 | .lv .term=>5
 | .lv .unary=>4
 | .post=>3
 | .atom=>2
 | .typ=>2
 | .tail _ _=>1
 | .jq _=>1
 | .gQ _ _=>1
def Job.reads:Job→Nat
 | .tail _ _=>0
 | .jq _=>0
 | .gQ _ _=>0
 | _=>1
def Wf (ns:List Nd):Prop:=∀ (i:Nat) nd,ns[i]? = some nd→∀ c ∈ nd.kids,0≤c∧c < (i:Int)
def Ids (as:List Int)(n:Nat):Prop:=∀ a ∈ as,0≤a∧a < (n:Int)
structure Goes (l:List Tok) (k0 lo:Nat) (ns0:List Nd) (as:List Int) (k:Nat) (ns:List Nd):Prop where
 lo:lo≤k
 le:k≤l.length
 few:ns.length+k0≤ns0.length+k
 more:∃ t,ns=ns0 ++ t
 wf:Wf ns
 ids:Ids as ns.length
 ne:as ≠ []
def dV (tot:Prop)(l:List Tok)(k0 lo:Nat)(ns0:List Nd)(r:Option kX):Prop :=
 (tot→∃ x,r=some x)∧∀ x,r=some x→(∀ as k ns,x=.ok as k ns→Goes l k0 lo ns0 as k ns)∧∀ k,x=.bad k→k≤l.length
section
variable {l:List Tok} {en:Int}
theorem cB {k:Nat}{s:Bs}(h:tx l k=s)(a:s ≠ []):k < l.length:=by
 rcases Nat.lt_or_ge k l.length with h1 | h1
 ·exact h1
 ·exfalso
  apply a
  rw [← h];unfold tx;rw [mU l k h1]
theorem h_ {k c:Nat}(h:(tg l k).kind=c)(a:c ≠ 0):k < l.length:=by
 rcases Nat.lt_or_ge k l.length with h1 | h1
 ·exact h1
 ·exfalso
  apply a
  rw [← h,mU l k h1]
theorem Wf.add {ns:List Nd}(h:Wf ns){n:Nd}(b:Ids n.kids ns.length):Wf (ns ++ [n]):=by
 intro i nd hi c a;rcases Nat.lt_or_ge i ns.length with h1 | h1
 ·rw [List.getElem?_append_left h1] at hi;exact h i nd hi c a
 ·rw [List.getElem?_append_right h1] at hi
  have h2:i - ns.length=0:=by
   rcases Nat.eq_zero_or_pos (i - ns.length) with h2 | h2
   ·exact h2
   ·rw [List.getElem?_eq_none (by simp;omega)] at hi;cases hi
  rw [h2] at hi
  have:n=nd:=by simpa using hi
  subst this
  have:=b c a
  omega
theorem Ids.nil (n:Nat):Ids [] n:=fun _ h=>by cases h
theorem Ids.cons {a:Int}{as:List Int}{n:Nat}(h:0≤a∧a < (n:Int))(k:Ids as n):Ids (a :: as) n:=fun b c=>by
 rcases List.mem_cons.1 c with rfl | c
 ·exact h
 ·exact k b c
theorem Ids.mono {as:List Int}{n m:Nat}(h:Ids as n)(c:n≤m):Ids as m:=fun a b=>by have:=h a b;omega
theorem Ids.app {as b:List Int}{n:Nat}(h:Ids as n)(k:Ids b n):Ids (as ++ b) n:=fun a c=>by
 rcases List.mem_append.1 c with h1 | h1
 ·exact h a h1
 ·exact k a h1
theorem Goes.hd {k0 lo k:Nat}{ns0 ns:List Nd}{as:List Int}(g:Goes l k0 lo ns0 as k ns):0≤hd as∧hd as < (ns.length:Int):=by
 cases as with
 | nil=>exact absurd rfl g.ne
 | cons a r=>exact g.ids a (List.mem_cons_self ..)
theorem Goes.len {k0 lo k:Nat}{ns0 ns:List Nd}{as:List Int}(g:Goes l k0 lo ns0 as k ns):ns0.length≤ns.length:=by
 obtain⟨t,rfl⟩:=g.more;simp
theorem dV.add {tot:Prop}{k0 lo k:Nat}{ns0 ns:List Nd}(n:Nd)(h:lo≤k)(f:k≤l.length)(o:ns.length+k0 < ns0.length+k)(g:∃ t,ns=ns0 ++ t)(j:Wf ns)(hi:Ids n.kids ns.length):dV tot l k0 lo ns0 (Mist.add n k ns) :=
 ⟨fun _=>⟨_,rfl⟩,fun x a=>by
  injection a with a
  subst a
  exact⟨fun as q m e=>by
   injection e with b c d
   subst b;subst c;subst d;obtain⟨t,i⟩:=g;exact⟨h,f,by simp;omega,⟨t ++ [n],by rw [i,List.append_assoc]⟩,j.add hi,Ids.cons ⟨by omega,by simp;omega⟩ (Ids.nil _),by simp⟩,fun k e=>by cases e⟩⟩
theorem dV.give {tot:Prop}{k0 lo k:Nat}{ns0 ns:List Nd}{as:List Int}(h:lo≤k)(g:k≤l.length)(f:ns.length+k0≤ns0.length+k)(i:∃ t,ns=ns0 ++ t)(m:Wf ns)(hi:Ids as ns.length)(j:as ≠ []):dV tot l k0 lo ns0 (some (.ok as k ns)) :=
 ⟨fun _=>⟨_,rfl⟩,fun x a=>by
  injection a with a
  subst a
  exact⟨fun as o n e=>by
   injection e with b c d
   subst b;subst c;subst d;exact⟨h,g,f,i,m,hi,j⟩,fun k e=>by cases e⟩⟩
theorem dV.bad {tot:Prop}{k0 lo k:Nat}{ns0:List Nd}(d:k≤l.length):dV tot l k0 lo ns0 (some (.bad k)) :=
 ⟨fun _=>⟨_,rfl⟩,fun x a=>by
  injection a with a
  subst a;exact⟨fun as b c e=>(by cases e),fun b e=>by injection e with e;omega⟩⟩
theorem dV.need {tot:Prop}{k0 lo k:Nat}{ns0:List Nd}{s:Bs}{f:Option kX}(b:s ≠ [])(a:k≤l.length)(h:k < l.length→dV tot l k0 lo ns0 f):dV tot l k0 lo ns0 (Mist.need l s k f):=by
 unfold Mist.need;split
 ·rename_i e;exact h (cB e b)
 ·exact dV.bad a
theorem dV.dQ {tot:Prop}{k0 lo k c:Nat}{ns0:List Nd}{f:Option kX}(a:c ≠ 0)(b:k≤l.length)(h:k < l.length→dV tot l k0 lo ns0 f):dV tot l k0 lo ns0 (Mist.dQ l c k f):=by
 unfold Mist.dQ;split
 ·rename_i e;exact h (h_ e a)
 ·exact dV.bad b
theorem dV.thn {tot c:Prop}{k0 lo e b:Nat}{ns0 d:List Nd}{r:Option kX}{f:List Int→Nat→List Nd→Option kX}(h:dV c l e b d r)(j:tot→c)(i:∀ as k ns,Goes l e b d as k ns→dV tot l k0 lo ns0 (f as k ns)):dV tot l k0 lo ns0 (Mist.thn r f):=by
 cases r with
 | none =>
  refine⟨fun q=>?_,fun x a=>by cases a⟩
  obtain⟨x,a⟩:=h.1 (j q);cases a
 | some y =>
  obtain⟨a,g⟩:=h.2 y rfl
  cases y with
  | bad k=>exact dV.bad (g k rfl)
  | ok as k ns=>exact i as k ns (a _ _ _ rfl)
theorem dV.on {tot f:Prop}{k0 lo i a:Nat}{ns0 b:List Nd}{r:Option kX}(h:dV f l i a b r)(c:tot→f)(m:lo≤a)(v:b.length+k0≤ns0.length+i)(n:∃ t,b=ns0 ++ t):dV tot l k0 lo ns0 r:=by
 refine⟨fun q=>h.1 (c q),fun x d=>?_⟩
 obtain⟨d,j⟩:=h.2 x d
 refine⟨fun as k ns e=>?_,j⟩
 have g:=d as k ns e;obtain⟨t,c⟩:=n;obtain⟨u,o⟩:=g.more;exact⟨Nat.le_trans m g.lo,g.le,by have:=g.few;omega,⟨t ++ u,by rw [o,c,List.append_assoc]⟩,g.wf,g.ids,g.ne⟩
theorem dV.imp {tot a:Prop}{k0 lo:Nat}{ns0:List Nd}{r:Option kX}(h:dV a l k0 lo ns0 r)(b:tot→a):dV tot l k0 lo ns0 r:=⟨fun q=>h.1 (b q),h.2⟩
theorem fD {a b c:List Nd}(h:∃ t,b=a ++ t)(k:∃ t,c=b ++ t):∃ t,c=a ++ t:=by
 obtain⟨t,rfl⟩:=h;obtain⟨u,rfl⟩:=k;exact⟨t ++ u,by rw [List.append_assoc]⟩
theorem dS (a:List Nd):∃ t,a=a ++ t:=⟨[],by simp⟩
theorem El.yF (e:El):e.job.rank=11:=by cases e <;> rfl
theorem El.vw (e:El):e.job.reads=1:=by cases e <;> rfl
theorem Cv {v:Lv}{k:Nat}(h:¬ iJ v (tx l k)=0):k < l.length∧(v=.or∨v=.and∨v=.cmp∨v=.sum∨v=.term):=by
 constructor
 ·rcases Nat.lt_or_ge k l.length with h1 | h1
  ·exact h1
  ·exfalso
   apply h
   have:tx l k=[]:=by unfold tx;rw [mU l k h1]
   rw [this]
   cases v <;> rfl
 ·cases v <;> simp [iJ] at h ⊢
def Job.args:Job→List Int
 | .tail _ a=>[a]
 | .jq a=>[a]
 | .gQ _ acc=>acc
 | _=>[]
theorem Fq:∀ (m:Nat) (j:Job) (k:Nat) (ns:List Nd),k≤l.length→Wf ns→Ids j.args ns.length→(∀ e u,j=.gQ e u→u ≠ [])→dV (13 * (l.length - k)+j.rank < m) l k (k+j.reads) ns (run l en m j k ns)
 | 0,_,_,_,_,_,_,_=>⟨fun h=>by omega,fun x J=>by rw [run] at J;cases J⟩
 | m+1,j,k,ns,hk,f,hi,y=>by
  have i:=fun j k ns h1 f hi y=>Fq m j k ns h1 f hi y
  cases j with
  | expr =>
   simp only [Job.reads];rw [run];split
   ·rename_i e
    have h1:=cB e (by simp);refine (i .expr (k+1) ns (by omega) f (Ids.nil _) (by simp)).thn (fun h=>by simp only [Job.rank] at h ⊢;omega) fun a n o g=>dV.need (by simp) g.le fun A=>?_
    have d:=g.lo;have t:=g.few;simp only [Job.reads] at d
    refine (i .expr (n+1) o (by omega) g.wf (Ids.nil _) (by simp)).thn (fun h=>by simp only [Job.rank] at h ⊢;omega) fun b C B q=>dV.need (by simp) q.le fun R=>?_
    have D:=q.lo;have w:=q.few;simp only [Job.reads] at D
    refine (i .expr (C+1) B (by omega) q.wf (Ids.nil _) (by simp)).thn (fun h=>by simp only [Job.rank] at h ⊢;omega) fun c S P r=>?_
    have r1:=r.lo;have r2:=r.few;simp only [Job.reads] at r1
    have H:=g.hd;have I:=q.hd;have L:=r.hd;have l1:=q.len;have T:=r.len;exact dV.add _ (by omega) r.le (by omega) (fD g.more (fD q.more r.more)) r.wf (Ids.cons (by omega) (Ids.cons (by omega) (Ids.cons L (Ids.nil _))))
   ·split
    ·rename_i e
     have h1:=cB e (by simp);refine dV.dQ (by simp) (by omega) fun d=>dV.need (by simp) (by omega) fun t=>?_
     refine (i .expr (k+3) ns (by omega) f (Ids.nil _) (by simp)).thn (fun h=>by simp only [Job.rank] at h ⊢;omega) fun a n o g=>dV.need (by simp) g.le fun K=>?_
     have d:=g.lo;have t:=g.few;simp only [Job.reads] at d
     refine (i .expr (n+1) o (by omega) g.wf (Ids.nil _) (by simp)).thn (fun h=>by simp only [Job.rank] at h ⊢;omega) fun b C B q=>?_
     have D:=q.lo;have w:=q.few;simp only [Job.reads] at D
     have H:=g.hd;have I:=q.hd;have l1:=q.len;exact dV.add _ (by omega) q.le (by omega) (fD g.more q.more) q.wf (Ids.cons (by omega) (Ids.cons I (Ids.nil _)))
    ·exact (i (.lv .or) k ns hk f (Ids.nil _) (by simp)).imp (fun h=>by simp only [Job.rank] at h ⊢;omega)
  | lv v =>
   have E:∀ v,(v=.or∨v=.and∨v=.cmp∨v=.sum∨v=.term)→dV (13 * (l.length - k)+(Job.lv v).rank < m+1) l k (k+1) ns (Mist.thn (run l en m (.lv v.below) k ns) fun a n o=>run l en m (.tail v (hd a)) n o):=by
    intro v hv;have N:3≤(Job.lv v).rank:=by cases v <;> decide
    have M:(Job.lv v.below).rank+1=(Job.lv v).rank:=by
     rcases hv with rfl | rfl | rfl | rfl | rfl <;> rfl
    refine (i (.lv v.below) k ns hk f (Ids.nil _) (by simp)).thn (fun h=>by omega) fun a n o g=>?_
    have d:=g.lo;have t:=g.few;simp only [Job.reads] at d
    exact (i (.tail v (hd a)) n o g.le g.wf (Ids.cons g.hd (Ids.nil _)) (by simp)).on (fun h=>by show 13 * (l.length - n)+1 < m;omega) (by simp only [Job.reads];omega) t g.more
   cases v with
   | not =>
    simp only [Job.reads];rw [run];split
    ·rename_i e
     have h1:=cB e (by simp);refine (i (.lv .not) (k+1) ns (by omega) f (Ids.nil _) (by simp)).thn (fun h=>by simp only [Job.rank] at h ⊢;omega) fun a n o g=>?_
     have d:=g.lo;have t:=g.few;simp only [Job.reads] at d
     exact dV.add _ (by omega) g.le (by omega) g.more g.wf (Ids.cons g.hd (Ids.nil _))
    ·exact (i (.lv .cmp) k ns hk f (Ids.nil _) (by simp)).imp (fun h=>by simp only [Job.rank] at h ⊢;omega)
   | unary =>
    simp only [Job.reads];rw [run];split
    ·rename_i e
     have h1:=cB e (by simp);refine (i (.lv .unary) (k+1) ns (by omega) f (Ids.nil _) (by simp)).thn (fun h=>by simp only [Job.rank] at h ⊢;omega) fun a n o g=>?_
     have d:=g.lo;have t:=g.few;simp only [Job.reads] at d
     exact dV.add _ (by omega) g.le (by omega) g.more g.wf (Ids.cons g.hd (Ids.nil _))
    ·exact (i .post k ns hk f (Ids.nil _) (by simp)).imp (fun h=>by simp only [Job.rank] at h ⊢;omega)
   | or=>rw [run] <;> first | exact E _ (by simp) | simp
   | and=>rw [run] <;> first | exact E _ (by simp) | simp
   | cmp=>rw [run] <;> first | exact E _ (by simp) | simp
   | sum=>rw [run] <;> first | exact E _ (by simp) | simp
   | term=>rw [run] <;> first | exact E _ (by simp) | simp
  | tail v a =>
   simp only [Job.reads,Job.args] at hi ⊢
   rw [run];split
   ·exact dV.give (ak0 _) hk (ak0 _) (dS _) f hi (by simp)
   ·rename_i e
    obtain⟨h1,hv⟩:=Cv e;have M:(Job.lv v.below).rank≤9:=by rcases hv with rfl | rfl | rfl | rfl | rfl <;> decide
    refine (i (.lv v.below) (k+1) ns (by omega) f (Ids.nil _) (by simp)).thn (fun h=>by have h:13 * (l.length - k)+1 < m+1:=h;omega) fun b n o g=>?_
    have d:=g.lo;have t:=g.few;have l1:=g.len;simp only [Job.reads] at d
    have H:=hi a (List.mem_cons_self ..);refine (dV.add (tot:=True) (k0:=k) (lo:=n) (ns0:=ns) ⟨iJ v (tx l k),[],0,[a,hd b],pl l en k⟩ (ak0 _) g.le (by omega) g.more g.wf (Ids.cons (by omega) (Ids.cons g.hd (Ids.nil _)))).thn (fun _=>trivial) fun c C B q=>?_
    have D:=q.lo;have w:=q.few;split
    ·exact dV.give (by omega) q.le w q.more q.wf (Ids.cons q.hd (Ids.nil _)) (by simp)
    ·exact (i (.tail v (hd c)) C B q.le q.wf (Ids.cons q.hd (Ids.nil _)) (by simp)).on (fun h=>by simp only [Job.rank] at h ⊢;omega) (by simp only [Job.reads];omega) w q.more
  | post =>
   simp only [Job.reads];rw [run];refine (i .atom k ns hk f (Ids.nil _) (by simp)).thn (fun h=>by simp only [Job.rank] at h ⊢;omega) fun a n o g=>?_
   have d:=g.lo;have t:=g.few;simp only [Job.reads] at d
   exact (i (.jq (hd a)) n o g.le g.wf (Ids.cons g.hd (Ids.nil _)) (by simp)).on (fun h=>by simp only [Job.rank] at h ⊢;omega) (by simp only [Job.reads];omega) t g.more
  | jq a =>
   simp only [Job.reads,Job.args] at hi ⊢
   rw [run];have H:=hi a (List.mem_cons_self ..);split
   ·rename_i e
    have h1:=cB e (by simp);refine dV.dQ (by simp) (by omega) fun d=>?_
    refine (dV.add (tot:=True) (k0:=k) (lo:=k+2) (ns0:=ns) ⟨22,tx l (k+1),0,[a],pl l en k⟩ (ak0 _) (by omega) (by omega) (dS _) f hi).thn (fun _=>trivial) fun c n o q=>?_
    have D:=q.lo;have w:=q.few;exact (i (.jq (hd c)) n o q.le q.wf (Ids.cons q.hd (Ids.nil _)) (by simp)).on (fun h=>by simp only [Job.rank] at h ⊢;omega) (by simp only [Job.reads];omega) w q.more
   ·split
    ·rename_i e
     have h1:=cB e (by simp);refine (i .expr (k+1) ns (by omega) f (Ids.nil _) (by simp)).thn (fun h=>by simp only [Job.rank] at h ⊢;omega) fun b n o g=>dV.need (by simp) g.le fun A=>?_
     have d:=g.lo;have t:=g.few;have l1:=g.len;simp only [Job.reads] at d
     refine (dV.add (tot:=True) (k0:=k) (lo:=n+1) (ns0:=ns) ⟨23,[],0,[a,hd b],pl l en k⟩ (ak0 _) (by omega) (by omega) g.more g.wf (Ids.cons (by omega) (Ids.cons g.hd (Ids.nil _)))).thn (fun _=>trivial) fun c C B q=>?_
     have D:=q.lo;have w:=q.few;exact (i (.jq (hd c)) C B q.le q.wf (Ids.cons q.hd (Ids.nil _)) (by simp)).on (fun h=>by simp only [Job.rank] at h ⊢;omega) (by simp only [Job.reads];omega) w q.more
    ·exact dV.give (ak0 _) hk (ak0 _) (dS _) f hi (by simp)
  | atom =>
   simp only [Job.reads];rw [run];split
   ·rename_i e;have h1:=h_ e (by simp);exact dV.add _ (ak0 _) (by omega) (by omega) (dS _) f (Ids.nil _)
   split
   ·rename_i e;have h1:=cB e (by simp);exact dV.add _ (ak0 _) (by omega) (by omega) (dS _) f (Ids.nil _)
   split
   ·rename_i e;have h1:=cB e (by simp);exact dV.add _ (ak0 _) (by omega) (by omega) (dS _) f (Ids.nil _)
   split
   ·rename_i e
    have h1:=cB e (by simp);refine (i .expr (k+1) ns (by omega) f (Ids.nil _) (by simp)).thn (fun h=>by simp only [Job.rank] at h ⊢;omega) fun a n o g=>dV.need (by simp) g.le fun A=>?_
    have d:=g.lo;have t:=g.few;simp only [Job.reads] at d
    exact dV.give (by omega) (by omega) (by omega) g.more g.wf (Ids.cons g.hd (Ids.nil _)) (by simp)
   split
   ·rename_i e
    have h1:=cB e (by simp);refine (i (.list .expr) (k+1) ns (by omega) f (Ids.nil _) (by simp)).thn (fun h=>by simp only [Job.rank] at h ⊢;omega) fun a n o g=>dV.need (by simp) g.le fun A=>?_
    have d:=g.lo;have t:=g.few;simp only [Job.reads] at d
    exact dV.add _ (by omega) (by omega) (by omega) g.more g.wf g.ids
   refine dV.dQ (by simp) hk fun G=>?_
   split
   ·rename_i e
    have h1:=cB e (by simp);split
    ·rename_i F
     have h2:=cB F (by simp);exact dV.add _ (by omega) (by omega) (by omega) (dS _) f (Ids.nil _)
    ·refine (i (.list .expr) (k+2) ns (by omega) f (Ids.nil _) (by simp)).thn (fun h=>by simp only [Job.rank] at h ⊢;omega) fun a n o g=>dV.need (by simp) g.le fun A=>?_
     have d:=g.lo;have t:=g.few;simp only [Job.reads] at d
     exact dV.add _ (by omega) (by omega) (by omega) g.more g.wf g.ids
   split
   ·rename_i e
    have h1:=cB e (by simp);refine (i (.list .put) (k+2) ns (by omega) f (Ids.nil _) (by simp)).thn (fun h=>by simp only [Job.rank] at h ⊢;omega) fun a n o g=>dV.need (by simp) g.le fun A=>?_
    have d:=g.lo;have t:=g.few;simp only [Job.reads] at d
    exact dV.add _ (by omega) (by omega) (by omega) g.more g.wf g.ids
   ·exact dV.add _ (ak0 _) (by omega) (by omega) (dS _) f (Ids.nil _)
  | put =>
   simp only [Job.reads];rw [run];refine dV.dQ (by simp) hk fun G=>dV.need (by simp) (by omega) fun d=>?_
   refine (i .expr (k+2) ns (by omega) f (Ids.nil _) (by simp)).thn (fun h=>by simp only [Job.rank] at h ⊢;omega) fun a n o g=>?_
   have d:=g.lo;have t:=g.few;simp only [Job.reads] at d
   exact dV.add _ (by omega) g.le (by omega) g.more g.wf (Ids.cons g.hd (Ids.nil _))
  | param =>
   simp only [Job.reads];rw [run];refine dV.dQ (by simp) hk fun G=>dV.need (by simp) (by omega) fun d=>?_
   refine (i .typ (k+2) ns (by omega) f (Ids.nil _) (by simp)).thn (fun h=>by simp only [Job.rank] at h ⊢;omega) fun a n o g=>?_
   have d:=g.lo;have t:=g.few;simp only [Job.reads] at d
   exact dV.add _ (by omega) g.le (by omega) g.more g.wf (Ids.cons g.hd (Ids.nil _))
  | typ =>
   simp only [Job.reads];rw [run];split
   ·rename_i e;have h1:=cB e (by simp);exact dV.add _ (ak0 _) (by omega) (by omega) (dS _) f (Ids.nil _)
   split
   ·rename_i e;have h1:=cB e (by simp);exact dV.add _ (ak0 _) (by omega) (by omega) (dS _) f (Ids.nil _)
   split
   ·rename_i e
    have h1:=cB e (by simp);refine (i .typ (k+1) ns (by omega) f (Ids.nil _) (by simp)).thn (fun h=>by simp only [Job.rank] at h ⊢;omega) fun a n o g=>dV.need (by simp) g.le fun A=>dV.dQ (by simp) (by omega) fun Q=>dV.need (by simp) (by omega) fun K=>?_
    have d:=g.lo;have t:=g.few;simp only [Job.reads] at d
    exact dV.add _ (by omega) (by omega) (by omega) g.more g.wf (Ids.cons g.hd (Ids.nil _))
   ·exact dV.dQ (by simp) hk fun G=>dV.add _ (ak0 _) (by omega) (by omega) (dS _) f (Ids.nil _)
  | list e =>
   simp only [Job.reads];rw [run];refine (i e.job k ns hk f (by cases e <;> exact Ids.nil _) (by cases e <;> simp [El.job])).thn (fun h=>by rw [El.yF];simp only [Job.rank] at h;omega) fun a n o g=>?_
   have d:=g.lo;have t:=g.few;rw [El.vw] at d
   exact (i (.gQ e [hd a]) n o g.le g.wf (Ids.cons g.hd (Ids.nil _)) (by intro _ _ h;injection h with _ h;rw [← h];simp)).on (fun h=>by simp only [Job.rank] at h ⊢;omega) (by simp only [Job.reads];omega) t g.more
  | gQ e u =>
   simp only [Job.reads,Job.args] at hi ⊢
   rw [run];split
   ·rename_i F
    have h1:=cB F (by simp);refine (i e.job (k+1) ns (by omega) f (by cases e <;> exact Ids.nil _) (by cases e <;> simp [El.job])).thn (fun h=>by rw [El.yF];simp only [Job.rank] at h;omega) fun a n o g=>?_
    have d:=g.lo;have t:=g.few;have l1:=g.len;rw [El.vw] at d
    exact (i (.gQ e (u ++ [hd a])) n o g.le g.wf ((hi.mono l1).app (Ids.cons g.hd (Ids.nil _))) (by intro _ _ h;injection h with _ h;rw [← h];simp)).on (fun h=>by simp only [Job.rank] at h ⊢;omega) (by simp only [Job.reads];omega) (by omega) g.more
   ·exact dV.give (ak0 _) hk (ak0 _) (dS _) f hi (y e u rfl)
end
end Mist
