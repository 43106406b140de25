/-
  A part of the proof.
-/
import Derived.Test.YtajfdjikimiapaaGreatDoorSA
import Derived.Lib.AtoiTie
set_option linter.all false
set_option maxRecDepth 100000
namespace Mist
abbrev Bs:=List UInt8
def aU (l:Bs):ByteArray:=⟨⟨l⟩⟩
theorem Ov (l:Bs):(aU l).data.toList=l:=rfl
theorem aN (l:Bs):(aU l).size=l.length:=rfl
def gt (l:Bs)(n:Nat):UInt8:=l.getD n 0
theorem aV (l:Bs)(i:Nat)(h:i < (aU l).size):(aU l)[i]'h=gt l i:=by
 have a:i < l.length:=h;simp [gt,a];rfl
theorem WQ (l:Bs)(n:Nat)(h:n < l.length):gt l n=l[n]:=by simp [gt,h]
theorem BJ (l:Bs)(n k:Nat):gt (l.drop n) k=gt l (n+k):=by simp [gt,ait]
theorem aat (l:Bs)(n k:Nat)(h:k < n):gt (l.take n) k=gt l k:=by simp [gt,ait,h]
theorem wV (l:Bs)(n:Nat)(h:n < l.length):l.drop n=gt l n :: l.drop (n+1):=by rw [WQ l n h];exact aiJ h
theorem abl (l:Bs)(n:Nat)(h:n < l.length):l.take (n+1)=l.take n ++ [gt l n]:=by rw [WQ l n h];exact List.take_succ_eq_append_getElem h
theorem aaU {l m:Bs}(h:aU l=aU m):l=m:=by
 have:=congrArg (fun s=>s.data.toList) h
 simpa [Ov] using this
theorem au (l:Bs)(a b:Nat):(aU l).extract a b=aU ((l.take b).drop a):=by
 apply ByteArray.ext
 simp [aU,ByteArray.data_extract,List.extract_toArray,List.extract_eq_take_drop,List.drop_take]
theorem aG (l m:Bs):aU l ++ aU m=aU (l ++ m):=by
 apply ByteArray.ext
 simp [aU,ByteArray.data_append]
theorem aaM (s:ByteArray):∀ (k i:Nat) (r:List UInt8),s.size - i=k→ByteArray.toList.loop s i r=r.reverse ++ s.data.toList.drop i:=by
 intro k
 induction k with
 | zero =>
  intro i r h;unfold ByteArray.toList.loop;rw [if_neg (by omega),List.drop_eq_nil_of_le (by rw [Array.length_toList];show s.size≤i;omega)];simp
 | succ k a =>
  intro i r h;unfold ByteArray.toList.loop;have hi:i < s.data.toList.length:=by rw [Array.length_toList];show i < s.size;omega
  rw [if_pos (by omega),a (i+1) _ (by omega),aiJ hi]
  have:s.get! i=s.data.toList[i]:=by
   show s.data[i]! = _
   rw [getElem!_pos s.data i (by simpa using hi)];rfl
  simp [this]
theorem aM (l:Bs):(aU l).toList=l:=by
 have:=aaM (aU l) ((aU l).size - 0) 0 [] rfl
 simpa [ByteArray.toList,aU] using this
def hasB (xs:List Bs)(x:Bs):Bool:=xs.contains x
def sg (xs:List Bs)(n:Nat):Bs:=xs.getD n []
theorem K_ (xs:List Bs)(n:Nat)(h:n < xs.length):sg xs n=xs[n]:=by simp [sg,h]
theorem R6 (xs:List Bs)(x:Bs)(n:Nat)(h:n < xs.length):hasB (xs.take (n+1)) x=(hasB (xs.take n) x || (x == sg xs n)):=by
 rw [K_ _ _ h,List.take_succ_eq_append_getElem h,hasB,hasB,List.contains_append]
 congr 1
 rw [aiu];simp
theorem aaw (xs:List Bs)(x:Bs)(n:Nat)(h:n < xs.length)(e:sg xs n=x):hasB xs x=true:=by
 rw [K_ _ _ h] at e
 simp [hasB,← e]
def jk (b:UInt8):Bool:=b == 10 || (32≤b && b≤126)
def check (s:Bs):Nat × Nat :=
 if 2000 < s.length then (2000,5) else
 match s.findIdx? (fun b=>!jk b) with
 | some i=>(i,4)
 | none=>(0,0)
def eY (b:UInt8):Bool:=97≤b && b≤122
def bU (b:UInt8):Bool:=48≤b && b≤57
def dQ (b:UInt8):Bool:=eY b || bU b
def Bo (b:UInt8):Bool:=b == 32 || b == 10
def jO (b:UInt8):Bool:=b != 10
def bQ (p:UInt8→Bool)(s:Bs):Nat:=(s.takeWhile p).length
def lM:Bool→Bs→Nat
 | _,[]=>0
 | false,b :: r=>if Bo b then 1+lM false r else if b == 35 then 1+lM true r else 0
 | true,b :: r=>if b == 10 then 1+lM false r else 1+lM true r
def skip (s:Bs):Nat:=lM false s
def iB (s:Bs):Bool:=decide (s.length≤4) && (s.length == 1 || gt s 0 != 48)
def keywords:List Bs:=[[97,110,100],[97,115,107],[98,108,97,109,101],[98,111,111,108],[98,111,117,110,100,115],[99,104,111,111,115,101],[99,111,117,110,116],[101,108,115,101],[102,97,108,115,101],[102,117,110],[105,102],[105,110],[105,110,116],[108,101,116],[108,111,111,107],[109,97,121],[109,117,115,116],[110,111,116],[111,98,115,101,114,118,101],[111,114],[114,101,116,114,97,99,116],[116,104,101,110],[116,114,117,101],[116,121,112,101],[117,112,116,111],[118,97,108,117,101,115],[119,104,121]]
def signs:List Bs:=[[61,61],[33,61],[60,61],[62,61],[46,46],[43],[45],[42],[47],[37],[60],[62],[61],[40],[41],[91],[93],[123],[125],[44],[58],[59],[46]]
def qQ (g s:Bs):Bool:=g.isPrefixOf s
def oZ (s:Bs):Option Bs:=signs.find? (fun g=>qQ g s)
def first (s:Bs):Nat × Bs :=
 if s.length=0 then (0,[]) else
 if eY (gt s 0)=true then
  if hasB keywords (s.take (bQ dQ s))=true then (3,s.take (bQ dQ s))
  else if bQ dQ s≤12 then (1,s.take (bQ dQ s)) else (0,[])
 else if bU (gt s 0)=true then
  if iB (s.take (bQ bU s))=true then (2,s.take (bQ bU s)) else (0,[])
 else match oZ s with
  | some g=>(4,g)
  | none=>(0,[])
structure Tok where
 kind:Nat
 text:Bs
 at_:Int
 deriving DecidableEq,Inhabited
def kind (s:Bs):Nat:=if (first s).2=s then (first s).1 else 0
def ig (s:Bs):Nat:=if kind s=0 then 4 else 0
def isName (s:Bs):Bool:=kind s == 1
section
variable (s:Bs) (h0:¬ s.length=0)
include h0
theorem qJ (h:eY (gt s 0)=true)(k:hasB keywords (s.take (bQ dQ s))=true):first s=(3,s.take (bQ dQ s)):=by
 rw [first,if_neg h0,if_pos h,if_pos k]
theorem lW (h:eY (gt s 0)=true)(k:¬ hasB keywords (s.take (bQ dQ s))=true)(n:bQ dQ s≤12):first s=(1,s.take (bQ dQ s)):=by
 rw [first,if_neg h0,if_pos h,if_neg k,if_pos n]
theorem oI (h:eY (gt s 0)=true)(k:¬ hasB keywords (s.take (bQ dQ s))=true)(n:¬ bQ dQ s≤12):first s=(0,[]):=by
 rw [first,if_neg h0,if_pos h,if_neg k,if_neg n]
theorem l6 (h:¬ eY (gt s 0)=true)(d:bU (gt s 0)=true)(n:iB (s.take (bQ bU s))=true):first s=(2,s.take (bQ bU s)):=by
 rw [first,if_neg h0,if_neg h,if_pos d,if_pos n]
theorem lZ (h:¬ eY (gt s 0)=true)(d:bU (gt s 0)=true)(n:¬ iB (s.take (bQ bU s))=true):first s=(0,[]):=by
 rw [first,if_neg h0,if_neg h,if_pos d,if_neg n]
theorem oK (h:¬ eY (gt s 0)=true)(d:¬ bU (gt s 0)=true)(g:Bs)(e:oZ s=some g):first s=(4,g):=by
 rw [first,if_neg h0,if_neg h,if_neg d,e]
theorem oJ (h:¬ eY (gt s 0)=true)(d:¬ bU (gt s 0)=true)(e:oZ s=none):first s=(0,[]):=by
 rw [first,if_neg h0,if_neg h,if_neg d,e]
end
theorem nK (s:Bs)(h0:s.length=0):first s=(0,[]):=by rw [first,if_pos h0]
theorem Ns (s:Bs)(h:(first s).1=0):(first s).2=[]:=by
 unfold first at h ⊢
 split
 ·rfl
 ·rename_i h0
  rw [if_neg h0] at h
  split
  ·rename_i h1
   rw [if_pos h1] at h
   split
   ·rename_i h2;rw [if_pos h2] at h;simp at h
   ·rename_i h2
    rw [if_neg h2] at h
    split
    ·rename_i h3;rw [if_pos h3] at h;simp at h
    ·rfl
  ·rename_i h1
   rw [if_neg h1] at h
   split
   ·rename_i h2
    rw [if_pos h2] at h
    split
    ·rename_i h3;rw [if_pos h3] at h;simp at h
    ·rfl
   ·rename_i h2
    rw [if_neg h2] at h
    cases a:oZ s with
    | none=>rfl
    | some g=>rw [a] at h;simp at h
def vJ (s:Bs)(n:Nat):Prop:=∀ g ∈ signs.take n,qQ g s=false
theorem AA (s:Bs):vJ s 0:=by intro g a;simp at a
theorem tO (s:Bs)(n:Nat)(h:n < 23)(a:vJ s n)(b:qQ (sg signs n) s=false):vJ s (n+1):=by
 intro g c;have d:n < signs.length:=h;rw [List.take_succ_eq_append_getElem d] at c
 rcases List.mem_append.1 c with c | c
 ·exact a g c
 ·rw [K_ _ _ d] at b
  have:=List.mem_singleton.1 c
  rw [this];exact b
theorem Eb (s:Bs)(n:Nat)(h:n < 23)(a:vJ s n)(b:qQ (sg signs n) s=true):oZ s=some (sg signs n):=by
 have c:n < signs.length:=h
 have e:signs=signs.take n ++ sg signs n :: signs.drop (n+1):=by
  rw [K_ _ _ c,← aiJ c,List.take_append_drop]
 refine (congrArg (List.find? fun g=>qQ g s) e).trans ?_;rw [List.find?_append]
 have:(signs.take n).find? (fun g=>qQ g s)=none:=by
  rw [List.find?_eq_none];intro g d;rw [a g d];simp
 rw [this];simp [b]
theorem AX (s:Bs)(a:vJ s 23):oZ s=none:=by
 unfold oZ;rw [List.find?_eq_none];intro g b;rw [a g b];simp
theorem Ni (s:Bs)(h:2000 < s.length):check s=(2000,5):=by simp [check,h]
theorem Wu (s:Bs)(h:s.length≤2000)(a:∀ c ∈ s,jk c=true):check s=(0,0):=by
 have e:s.findIdx? (fun b=>!jk b)=none:=by
  rw [List.findIdx?_eq_none_iff];intro c d;simp [a c d]
 simp [check,e];omega
theorem Rt (s:Bs)(n:Nat)(h:s.length≤2000)(d:n < s.length)(e:∀ c ∈ s.take n,jk c=true)(a:jk (gt s n)=false):check s=(n,4):=by
 have f:s.findIdx? (fun b=>!jk b)=some n:=by
  rw [List.findIdx?_eq_some_iff_getElem]
  refine⟨d,by rw [WQ s n d] at a;simp [a],fun j g=>?_⟩
  have:s[j] ∈ s.take n:=by
   rw [List.mem_take_iff_getElem];exact⟨j,by omega,rfl⟩
  simp [e _ this]
 simp [check,f];omega
theorem OX (r:Bs):lM false (35 :: r)=lM true (35 :: r):=by simp [lM,Bo]
theorem OW (r:Bs):lM false (10 :: r)=lM true (10 :: r):=by simp [lM,Bo]
theorem OY (l:Bs):lM true l=bQ jO l+lM false (l.drop (bQ jO l)):=by
 induction l with
 | nil=>simp [lM,bQ]
 | cons b r c =>
  by_cases a:b=10
  ·subst a;simp [bQ,jO,OW]
  ·have:bQ jO (b :: r)=bQ jO r+1:=by unfold bQ;rw [List.takeWhile_cons_of_pos (by simp [jO,a])];rfl
   rw [this];simp [lM,a,c];omega
theorem pq (p:UInt8→Bool)(l:Bs):bQ p l≤l.length:=by
 unfold bQ;exact (List.takeWhile_sublist p).length_le
theorem YZ (l:Bs)(n:Nat)(h:n < l.length)(a:Bo (gt l n)=true):skip (l.drop n)=1+skip (l.drop (n+1)):=by
 rw [wV l n h];simp [skip,lM,a]
theorem UC (l:Bs)(n:Nat)(h:n < l.length)(a:gt l n=35):skip (l.drop n)=bQ jO (l.drop n)+skip (l.drop (n+bQ jO (l.drop n))):=by
 have e:skip (l.drop n)=lM true (l.drop n):=by
  rw [wV l n h,a];exact OX _
 rw [e,OY,List.drop_drop];rfl
theorem UD (l:Bs)(n:Nat)(h:n < l.length)(a:Bo (gt l n)=false)(b:gt l n ≠ 35):skip (l.drop n)=0:=by
 rw [wV l n h];simp [skip,lM,a,b]
theorem YX (l:Bs)(n:Nat)(h:l.length≤n):skip (l.drop n)=0:=by
 rw [List.drop_eq_nil_of_le h];rfl
theorem YW (b:Bool)(l:Bs):lM b l≤l.length:=by
 induction l generalizing b with
 | nil=>cases b <;> simp [lM]
 | cons c r a =>
  have h1:=a true;have h2:=a false
  cases b <;> simp only [lM,List.length_cons] <;> (repeat' split) <;> omega
theorem QE (l:Bs):skip l≤l.length:=YW _ _
theorem ET (l:Bs)(n:Nat)(h:n < l.length)(a:gt l n=35):0 < bQ jO (l.drop n):=by
 rw [wV l n h,a];unfold bQ;rw [List.takeWhile_cons_of_pos (by simp [jO])];simp
end Mist
namespace Mist
def iD:Nat→Bs→Nat→List Tok→List Tok × Nat × Nat
 | 0,_,_,acc=>(acc,0,0)
 | f+1,l,a,acc =>
  if l.length≤a then (acc,0,0) else
  if (first (l.drop a)).1=0 then ([],a,4)
  else if acc.length=800 then ([],a,5)
  else iD f l (a+(first (l.drop a)).2.length+skip (l.drop (a+(first (l.drop a)).2.length))) (acc ++ [⟨(first (l.drop a)).1,(first (l.drop a)).2,(a:Int)⟩])
def read (s:Bs):List Tok × Nat × Nat :=
 if (check s).2 ≠ 0 then ([],(check s).1,(check s).2) else iD (s.length+1) s (skip s) []
theorem OQ (s g:Bs)(h:oZ s=some g):0 < g.length∧g.length≤s.length:=by
 have h1:=List.mem_of_find?_eq_some h;have h2:qQ g s=true:=List.find?_some (p:=fun g=>qQ g s) h
 have:∀ g ∈ signs,0 < g.length:=by decide
 exact⟨this g h1,(List.isPrefixOf_iff_prefix.1 h2).length_le⟩
theorem uI (p:UInt8→Bool)(s:Bs)(h0:¬ s.length=0)(h:p (gt s 0)=true):0 < bQ p s:=by
 cases s with
 | nil=>simp at h0
 | cons b r =>
  have h2:p b=true:=h;unfold bQ;rw [List.takeWhile_cons_of_pos h2];simp
theorem zA (s:Bs)(h:(first s).1 ≠ 0):0 < (first s).2.length∧(first s).2.length≤s.length:=by
 by_cases h0:s.length=0
 ·rw [nK s h0] at h;exact absurd rfl h
 by_cases a:eY (gt s 0)=true
 ·have f:=uI dQ s h0 (by simp [dQ,a]);have e:=pq dQ s;by_cases d:hasB keywords (s.take (bQ dQ s))=true
  ·rw [qJ s h0 a d];simp;omega
  ·by_cases b:bQ dQ s≤12
   ·rw [lW s h0 a d b];simp;omega
   ·rw [oI s h0 a d b] at h;exact absurd rfl h
 ·by_cases hd:bU (gt s 0)=true
  ·have f:=uI bU s h0 hd;have e:=pq bU s;by_cases b:iB (s.take (bQ bU s))=true
   ·rw [l6 s h0 a hd b];simp;omega
   ·rw [lZ s h0 a hd b] at h;exact absurd rfl h
  ·cases c:oZ s with
   | none=>rw [oJ s h0 a hd c] at h;exact absurd rfl h
   | some g=>rw [oK s h0 a hd g c];exact OQ s g c
theorem yB (f:Nat)(l:Bs)(a:Nat)(b:List Tok)(h:l.length≤a):iD (f+1) l a b=(b,0,0):=by rw [iD,if_pos h]
theorem u_ (f:Nat)(l:Bs)(a:Nat)(b:List Tok)(h:¬ l.length≤a)(k:(first (l.drop a)).1=0):iD (f+1) l a b=([],a,4):=by rw [iD,if_neg h,if_pos k]
theorem u6 (f:Nat)(l:Bs)(a:Nat)(b:List Tok)(h:¬ l.length≤a)(k:¬ (first (l.drop a)).1=0)(c:b.length=800):iD (f+1) l a b=([],a,5):=by rw [iD,if_neg h,if_neg k,if_pos c]
theorem vg (f:Nat)(l:Bs)(a:Nat)(b:List Tok)(h:¬ l.length≤a)(k:¬ (first (l.drop a)).1=0)(c:¬ b.length=800) :
  iD (f+1) l a b=iD f l (a+(first (l.drop a)).2.length+skip (l.drop (a+(first (l.drop a)).2.length))) (b ++ [⟨(first (l.drop a)).1,(first (l.drop a)).2,(a:Int)⟩]):=by
 rw [iD,if_neg h,if_neg k,if_neg c]
end Mist
namespace Mist
def Ar (n:Int):Prop:=-9223372036854775808≤n∧n≤9223372036854775807
def tg (l:List Tok)(k:Nat):Tok:=l.getD k ⟨0,[],0⟩
theorem afb (l:List Tok)(k:Nat)(h:k < l.length):tg l k=l[k]:=by simp [tg,h]
theorem Iw (l:List Tok)(k:Nat)(h:k < l.length):tg l k ∈ l:=by rw [afb l k h];exact List.getElem_mem h
end Mist
namespace Mist
open Go
def digits (acc:Nat)(l:Bs):Nat:=l.foldl (fun n c=>10 * n+(c.toNat - 48)) acc
def numOf (l:Bs):Nat:=digits 0 l
def numberOf (s:Bs):Nat × Nat:=if kind s=2 then (numOf s,0) else (0,4)
theorem AB (s:Bs)(h:¬ kind s=2):numberOf s=(0,4):=by unfold numberOf;rw [if_neg h]
theorem yg (s:Bs)(h:kind s=2):numberOf s=(numOf s,0):=by unfold numberOf;rw [if_pos h]
theorem Df (c:UInt8)(h:bU c=true):48≤c.toNat∧c.toNat≤57:=by
 simpa [bU,UInt8.le_iff_toNat_le] using h
theorem Ry (l:Bs)(h:∀ c ∈ l,bU c=true):∀ a,digits a l < (a+1) * 10 ^ l.length:=by
 induction l with
 | nil=>intro a;simp [digits]
 | cons c r b =>
  intro a;have f:=Df c (h c (by simp));have e:digits a (c :: r)=digits (10 * a+(c.toNat - 48)) r:=rfl;rw [e];refine aiI (b (fun d hd=>h d (by simp [hd])) _) ?_;rw [List.length_cons,Nat.pow_succ,Nat.mul_comm _ 10,← Nat.mul_assoc];exact Nat.mul_le_mul_right _ (by omega)
theorem X5 (l:Bs)(h:∀ c ∈ l,bU c=true)(k:l.length≤4):numOf l < 10000:=by
 have h1:=Ry l h 0;have h2:(10:Nat) ^ l.length≤10 ^ 4:=Nat.pow_le_pow_right (by omega) k;unfold numOf;omega
theorem Dc (l:Bs)(h:∀ c ∈ l,bU c=true):∀ a,Lib.decFrom a l=some (digits a l):=by
 induction l with
 | nil=>intro a;rfl
 | cons c r f =>
  intro a;have b:=Df c (h c (by simp));have e:digits a (c :: r)=digits (10 * a+(c.toNat - 48)) r:=rfl;have hd:Lib.digitVal c=some (c.toNat - 48):=by unfold Lib.digitVal;rw [if_pos b]
  rw [Lib.decFrom,hd,e]
  show Lib.decFrom (a * 10+(c.toNat - 48)) r=_
  rw [Nat.mul_comm];exact f (fun d hd=>h d (by simp [hd])) _
theorem Jq (l:Bs)(h:∀ c ∈ l,bU c=true)(k:l.length≤4)(k0:0 < l.length):Lib.atoiAll l=.ok (numOf l:Int):=by
 rw [Lib.atoiAll_short l (by omega)]
 have:Lib.atoi l=some (numOf l:Int):=by
  cases l with
  | nil=>simp at k0
  | cons b r =>
   have a:=Df b (h b (by simp))
   have h1:(b == 45)=false:=by
    rw [Bool.eq_false_iff];intro e
    have:=eq_of_beq e;subst this;simp at a
   have h2:(b == 43)=false:=by
    rw [Bool.eq_false_iff];intro e
    have:=eq_of_beq e;subst this;simp at a
   rw [Lib.atoi,h1,h2];simp only [Bool.false_eq_true,if_false];unfold Lib.decNat;rw [if_neg (by simp),Dc (b :: r) h 0];rfl
 rw [this];rfl
theorem Kn (s:Bs)(h:kind s=2):s.length≤4∧0 < s.length∧∀ c ∈ s,bU c=true:=by
 have d:(first s).2=s∧(first s).1=2:=by
  unfold kind at h
  split at h
  ·exact⟨by assumption,h⟩
  ·cases h
 obtain⟨h1,h2⟩:=d;by_cases h0:s.length=0
 ·rw [nK s h0] at h2;cases h2
 by_cases a:eY (gt s 0)=true
 ·by_cases d:hasB keywords (s.take (bQ dQ s))=true
  ·rw [qJ s h0 a d] at h2;cases h2
  ·by_cases b:bQ dQ s≤12
   ·rw [lW s h0 a d b] at h2;cases h2
   ·rw [oI s h0 a d b] at h2;cases h2
 ·by_cases hd:bU (gt s 0)=true
  ·by_cases b:iB (s.take (bQ bU s))=true
   ·rw [l6 s h0 a hd b] at h1
    simp only at h1
    have e:=b;rw [h1] at e
    have h4:s.length≤4:=by simp [iB] at e;omega
    refine⟨h4,by omega,?_⟩
    have f:s.length≤(s.takeWhile bU).length:=by
     have:=congrArg List.length h1
     simp [bQ] at this
     omega
    have k:s.takeWhile bU=s:=(List.takeWhile_prefix bU).eq_of_length (Nat.le_antisymm (List.takeWhile_prefix bU).length_le f);have i:=List.all_takeWhile (p:=bU) (l:=s);rw [k] at i
    simpa using i
   ·rw [lZ s h0 a hd b] at h2;cases h2
  ·cases j:oZ s with
   | none=>rw [oJ s h0 a hd j] at h2;cases h2
   | some g=>rw [oK s h0 a hd g j] at h2;cases h2
end Mist
namespace Mist
theorem rU (l:List Tok)(k:Nat)(h:l.length≤k):tg l k=⟨0,[],0⟩:=by simp [tg,h]
structure Nd where
 kind:Nat
 text:Bs
 n:Int
 kids:List Int
 at_:Int
 deriving DecidableEq,Inhabited
inductive kF
 | ok (r:List Int) (k:Nat) (ns:List Nd)
 | bad (k:Nat)
 deriving DecidableEq
def thn:Option kF→(List Int→Nat→List Nd→Option kF)→Option kF
 | none,_=>none
 | some (.bad k),_=>some (.bad k)
 | some (.ok r k ns),f=>f r k ns
def hd (r:List Int):Int:=r.headD 0
def add (n:Nd)(k:Nat)(ns:List Nd):Option kF:=some (.ok [(ns.length:Int)] k (ns ++ [n]))
inductive Lv | or | and | not | cmp | sum | term | unary
 deriving DecidableEq
inductive El | expr | put | param
 deriving DecidableEq
inductive Job
 | expr | lv (v:Lv) | tail (v:Lv) (a:Int) | post | qh (a:Int) | atom
 | put | param | typ | list (e:El) | lC (e:El) (acc:List Int)
 deriving DecidableEq
def El.job:El→Job
 | .expr=>.expr
 | .put=>.put
 | .param=>.param
def Lv.below:Lv→Lv
 | .or=>.and
 | .and=>.not
 | .not=>.cmp
 | .cmp=>.sum
 | .sum=>.term
 | _=>.unary
def oV:Lv→Bs→Nat
 | .or,s=>if s=[111,114] then 18 else 0
 | .and,s=>if s=[97,110,100] then 17 else 0
 | .cmp,s=>if s=[61,61] then 11 else if s=[33,61] then 12 else if s=[60] then 13 else if s=[60,61] then 14 else if s=[62] then 15 else if s=[62,61] then 16 else 0
 | .sum,s=>if s=[43] then 6 else if s=[45] then 7 else 0
 | .term,s=>if s=[42] then 8 else if s=[47] then 9 else if s=[37] then 10 else 0
 | _,_=>0
section
variable (l:List Tok) (en:Int)
def tx (k:Nat):Bs:=(tg l k).text
def pl (k:Nat):Int:=if k < l.length then (tg l k).at_ else en
def need (s:Bs)(k:Nat)(f:Option kF):Option kF:=if tx l k=s then f else some (.bad k)
def fZ (c:Nat)(k:Nat)(f:Option kF):Option kF:=if (tg l k).kind=c then f else some (.bad k)
def run:Nat→Job→Nat→List Nd→Option kF
 | 0,_,_,_=>none
 | n+1,.expr,k,ns =>
  if tx l k=[105,102] then
   thn (run n .expr (k+1) ns) fun a k1 dG=>need l [116,104,101,110] k1 <| thn (run n .expr (k1+1) dG) fun b k2 uw=>need l [101,108,115,101] k2 <|
    thn (run n .expr (k2+1) uw) fun c k3 X0=>add ⟨19,[],0,[hd a,hd b,hd c],pl l en k⟩ k3 X0
  else if tx l k=[108,101,116] then
   fZ l 1 (k+1) <| need l [61] (k+2) <| thn (run n .expr (k+3) ns) fun a k1 dG=>need l [105,110] k1 <|
    thn (run n .expr (k1+1) dG) fun b k2 uw=>add ⟨20,tx l (k+1),0,[hd a,hd b],pl l en k⟩ k2 uw
  else run n (.lv .or) k ns
 | n+1,.lv .not,k,ns =>
  if tx l k=[110,111,116] then thn (run n (.lv .not) (k+1) ns) fun a k1 dG=>add ⟨5,[],0,[hd a],pl l en k⟩ k1 dG
  else run n (.lv .cmp) k ns
 | n+1,.lv .unary,k,ns =>
  if tx l k=[45] then thn (run n (.lv .unary) (k+1) ns) fun a k1 dG=>add ⟨4,[],0,[hd a],pl l en k⟩ k1 dG
  else run n .post k ns
 | n+1,.lv v,k,ns=>thn (run n (.lv v.below) k ns) fun a k1 dG=>run n (.tail v (hd a)) k1 dG
 | n+1,.tail v a,k,ns =>
  if oV v (tx l k)=0 then some (.ok [a] k ns)
  else thn (run n (.lv v.below) (k+1) ns) fun b k1 dG=>thn (add ⟨oV v (tx l k),[],0,[a,hd b],pl l en k⟩ k1 dG) fun c k2 uw =>
   if v=.cmp then some (.ok [hd c] k2 uw) else run n (.tail v (hd c)) k2 uw
 | n+1,.post,k,ns=>thn (run n .atom k ns) fun a k1 dG=>run n (.qh (hd a)) k1 dG
 | n+1,.qh a,k,ns =>
  if tx l k=[46] then
   fZ l 1 (k+1) <| thn (add ⟨22,tx l (k+1),0,[a],pl l en k⟩ (k+2) ns) fun c k1 dG=>run n (.qh (hd c)) k1 dG
  else if tx l k=[91] then
   thn (run n .expr (k+1) ns) fun b k1 dG=>need l [93] k1 <| thn (add ⟨23,[],0,[a,hd b],pl l en k⟩ (k1+1) dG) fun c k2 uw=>run n (.qh (hd c)) k2 uw
  else some (.ok [a] k ns)
 | n+1,.atom,k,ns =>
  if (tg l k).kind=2 then add ⟨1,[],numOf (tx l k),[],pl l en k⟩ (k+1) ns
  else if tx l k=[116,114,117,101] then add ⟨2,[],1,[],pl l en k⟩ (k+1) ns
  else if tx l k=[102,97,108,115,101] then add ⟨2,[],0,[],pl l en k⟩ (k+1) ns
  else if tx l k=[40] then thn (run n .expr (k+1) ns) fun a k1 dG=>need l [41] k1 <| some (.ok [hd a] (k1+1) dG)
  else if tx l k=[91] then thn (run n (.list .expr) (k+1) ns) fun as k1 dG=>need l [93] k1 <| add ⟨26,[],0,as,pl l en k⟩ (k1+1) dG
  else fZ l 1 k <|
   if tx l (k+1)=[40] then
    if tx l (k+2)=[41] then add ⟨21,tx l k,0,[],pl l en k⟩ (k+3) ns
    else thn (run n (.list .expr) (k+2) ns) fun as k1 dG=>need l [41] k1 <| add ⟨21,tx l k,0,as,pl l en k⟩ (k1+1) dG
   else if tx l (k+1)=[123] then
    thn (run n (.list .put) (k+2) ns) fun as k1 dG=>need l [125] k1 <| add ⟨24,tx l k,0,as,pl l en k⟩ (k1+1) dG
   else add ⟨3,tx l k,0,[],pl l en k⟩ (k+1) ns
 | n+1,.put,k,ns=>fZ l 1 k <| need l [58] (k+1) <| thn (run n .expr (k+2) ns) fun a k1 dG=>add ⟨25,tx l k,0,[hd a],pl l en k⟩ k1 dG
 | n+1,.param,k,ns=>fZ l 1 k <| need l [58] (k+1) <| thn (run n .typ (k+2) ns) fun a k1 dG=>add ⟨34,tx l k,0,[hd a],pl l en k⟩ k1 dG
 | n+1,.typ,k,ns =>
  if tx l k=[105,110,116] then add ⟨30,[],0,[],pl l en k⟩ (k+1) ns
  else if tx l k=[98,111,111,108] then add ⟨31,[],0,[],pl l en k⟩ (k+1) ns
  else if tx l k=[91] then
   thn (run n .typ (k+1) ns) fun a k1 dG=>need l [59] k1 <| fZ l 2 (k1+1) <| need l [93] (k1+2) <| add ⟨33,[],numOf (tx l (k1+1)),[hd a],pl l en k⟩ (k1+3) dG
  else fZ l 1 k <| add ⟨32,tx l k,0,[],pl l en k⟩ (k+1) ns
 | n+1,.list e,k,ns=>thn (run n e.job k ns) fun a k1 dG=>run n (.lC e [hd a]) k1 dG
 | n+1,.lC e acc,k,ns =>
  if tx l k=[44] then thn (run n e.job (k+1) ns) fun a k1 dG=>run n (.lC e (acc ++ [hd a])) k1 dG
  else some (.ok acc k ns)
def Dq (k:Nat)(ns:List Nd):Option kF :=
 if tx l k=[45] then fZ l 2 (k+1) <| add ⟨1,[],-(numOf (tx l (k+1)):Int),[],pl l en k⟩ (k+2) ns
 else fZ l 2 k <| add ⟨1,[],numOf (tx l k),[],pl l en k⟩ (k+1) ns
def nD (s:Bs):Nat :=
 if s=[109,117,115,116] then 1 else if s=[109,97,121] then 2 else if s=[99,111,117,110,116] then 3 else if s=[98,111,117,110,100,115] then 4 else if s=[118,97,108,117,101,115] then 5 else if s=[119,104,121] then 6 else if s=[98,108,97,109,101] then 7 else if s=[108,111,111,107] then 8 else 0
def uj (n k:Nat)(ps:List Int)(t u:Int)(k3:Nat)(ns:List Nd):Option kF :=
 need l [61] k3 <| thn (run l en n .expr (k3+1) ns) fun b k4 X3=>add ⟨42,tx l (k+1),u,ps ++ [t] ++ [hd b],pl l en k⟩ k4 X3
def um (n k:Nat)(ps:List Int)(k1:Nat)(dG:List Nd):Option kF :=
 need l [41] k1 <| need l [58] (k1+1) <| thn (run l en n .typ (k1+2) dG) fun t k2 uw =>
  if tx l k2=[117,112,116,111] then
   if tx l (k2+1)=[48] then some (.bad (k2+1))
   else fZ l 2 (k2+1) <| uj l en n k ps (hd t) (numOf (tx l (k2+1))) (k2+2) uw
  else uj l en n k ps (hd t) 0 k2 uw
def PX (n k:Nat)(ns:List Nd):Option kF :=
 if nD (tx l (k+1))=0 then some (.bad (k+1))
 else if nD (tx l (k+1))=7 then add ⟨46,[],7,[],pl l en k⟩ (k+2) ns
 else if nD (tx l (k+1))=8 then thn (run l en n (.list .expr) (k+2) ns) fun as k1 dG=>add ⟨46,[],8,as,pl l en k⟩ k1 dG
 else thn (run l en n .expr (k+2) ns) fun a k1 dG=>add ⟨46,[],(nD (tx l (k+1)):Nat),[hd a],pl l en k⟩ k1 dG
inductive It | choose | record | Ny | Oj | observe | rO | ask
 deriving DecidableEq
def Sy (s:Bs):Option It :=
 if s=[99,104,111,111,115,101] then some .choose else if s=[116,121,112,101] then some .record else if s=[102,117,110] then some .Ny else if s=[108,101,116] then some .Oj else if s=[111,98,115,101,114,118,101] then some .observe else if s=[114,101,116,114,97,99,116] then some .rO else if s=[97,115,107] then some .ask else none
def iq (n:Nat):It→Nat→List Nd→Option kF
 | .choose,k,ns=>fZ l 1 (k+1) <| need l [58] (k+2) <| thn (Dq l en (k+3) ns) fun a k1 dG=>need l [46,46] k1 <| thn (Dq l en (k1+1) dG) fun b k2 uw=>add ⟨40,tx l (k+1),0,[hd a,hd b],pl l en k⟩ k2 uw
 | .record,k,ns=>fZ l 1 (k+1) <| need l [61] (k+2) <| need l [123] (k+3) <| thn (run l en n (.list .param) (k+4) ns) fun as k1 dG=>need l [125] k1 <| add ⟨41,tx l (k+1),0,as,pl l en k⟩ (k1+1) dG
 | .Ny,k,ns=>fZ l 1 (k+1) <| need l [40] (k+2) <|
   if tx l (k+3)=[41] then um l en n k [] (k+3) ns else thn (run l en n (.list .param) (k+3) ns) fun ps k1 dG=>um l en n k ps k1 dG
 | .Oj,k,ns=>fZ l 1 (k+1) <| need l [61] (k+2) <| thn (run l en n .expr (k+3) ns) fun a k1 dG=>add ⟨43,tx l (k+1),0,[hd a],pl l en k⟩ k1 dG
 | .observe,k,ns=>fZ l 1 (k+1) <| need l [58] (k+2) <| thn (run l en n .expr (k+3) ns) fun a k1 dG=>add ⟨44,tx l (k+1),0,[hd a],pl l en k⟩ k1 dG
 | .rO,k,ns=>fZ l 1 (k+1) <| add ⟨45,tx l (k+1),0,[],pl l en k⟩ (k+2) ns
 | .ask,k,ns=>PX l en n k ns
def item (n k:Nat)(ns:List Nd):Option kF :=
 if (tg l k).kind=3 then
  match Sy (tx l k) with
  | some i=>iq l en n i k ns
  | none=>some (.bad k)
 else some (.bad k)
def prog (n:Nat):Nat→Nat→List Nd→List Int→Option kF
 | 0,_,_,_=>none
 | m+1,k,ns,its =>
  if k < l.length then thn (item l en n k ns) fun a k1 dG=>need l [59] k1 <| prog n m (k1+1) dG (its ++ [hd a])
  else some (.ok its k ns)
end
def Job.rank:Job→Nat
 | .list _=>12
 | .expr=>11
 | .put=>11
 | .param=>11
 | .lv .or=>10
 | .lv .and=>9
 | .lv .not=>8
 | .lv .cmp=>7
 | .lv .sum=>6
 | .lv .term=>5
 | .lv .unary=>4
 | .post=>3
 | .atom=>2
 | .typ=>2
 | .tail _ _=>1
 | .qh _=>1
 | .lC _ _=>1
def Job.reads:Job→Nat
 | .tail _ _=>0
 | .qh _=>0
 | .lC _ _=>0
 | _=>1
def Wf (ns:List Nd):Prop:=∀ (i:Nat) nd,ns[i]? = some nd→∀ c ∈ nd.kids,0≤c∧c < (i:Int)
def Ids (as:List Int)(n:Nat):Prop:=∀ a ∈ as,0≤a∧a < (n:Int)
structure Goes (l:List Tok) (k0 lo:Nat) (ns0:List Nd) (as:List Int) (k:Nat) (ns:List Nd):Prop where
 lo:lo≤k
 le:k≤l.length
 few:ns.length+k0≤ns0.length+k
 more:∃ t,ns=ns0 ++ t
 wf:Wf ns
 ids:Ids as ns.length
 ne:as ≠ []
def dA (tot:Prop)(l:List Tok)(k0 lo:Nat)(ns0:List Nd)(r:Option kF):Prop :=
 (tot→∃ x,r=some x)∧∀ x,r=some x→(∀ as k ns,x=.ok as k ns→Goes l k0 lo ns0 as k ns)∧∀ k,x=.bad k→k≤l.length
section
variable {l:List Tok} {en:Int}
theorem dM {k:Nat}{s:Bs}(h:tx l k=s)(a:s ≠ []):k < l.length:=by
 rcases Nat.lt_or_ge k l.length with h1 | h1
 ·exact h1
 ·exfalso
  apply a
  rw [← h];unfold tx;rw [rU l k h1]
theorem lq {k c:Nat}(h:(tg l k).kind=c)(a:c ≠ 0):k < l.length:=by
 rcases Nat.lt_or_ge k l.length with h1 | h1
 ·exact h1
 ·exfalso
  apply a
  rw [← h,rU l k h1]
theorem Wf.add {ns:List Nd}(h:Wf ns){n:Nd}(b:Ids n.kids ns.length):Wf (ns ++ [n]):=by
 intro i nd hi c a;rcases Nat.lt_or_ge i ns.length with h1 | h1
 ·rw [List.getElem?_append_left h1] at hi;exact h i nd hi c a
 ·rw [List.getElem?_append_right h1] at hi
  have h2:i - ns.length=0:=by
   rcases Nat.eq_zero_or_pos (i - ns.length) with h2 | h2
   ·exact h2
   ·rw [List.getElem?_eq_none (by simp;omega)] at hi;cases hi
  rw [h2] at hi
  have:n=nd:=by simpa using hi
  subst this
  have:=b c a
  omega
theorem Ids.nil (n:Nat):Ids [] n:=fun _ h=>by cases h
theorem Ids.cons {a:Int}{as:List Int}{n:Nat}(h:0≤a∧a < (n:Int))(k:Ids as n):Ids (a :: as) n:=fun b c=>by
 rcases List.mem_cons.1 c with rfl | c
 ·exact h
 ·exact k b c
theorem Ids.mono {as:List Int}{n m:Nat}(h:Ids as n)(c:n≤m):Ids as m:=fun a b=>by have:=h a b;omega
theorem Ids.app {as b:List Int}{n:Nat}(h:Ids as n)(k:Ids b n):Ids (as ++ b) n:=fun a c=>by
 rcases List.mem_append.1 c with h1 | h1
 ·exact h a h1
 ·exact k a h1
theorem Goes.hd {k0 lo k:Nat}{ns0 ns:List Nd}{as:List Int}(g:Goes l k0 lo ns0 as k ns):0≤hd as∧hd as < (ns.length:Int):=by
 cases as with
 | nil=>exact absurd rfl g.ne
 | cons a r=>exact g.ids a (List.mem_cons_self ..)
theorem Goes.len {k0 lo k:Nat}{ns0 ns:List Nd}{as:List Int}(g:Goes l k0 lo ns0 as k ns):ns0.length≤ns.length:=by
 obtain⟨t,rfl⟩:=g.more;simp
theorem dA.add {tot:Prop}{k0 lo k:Nat}{ns0 ns:List Nd}(n:Nd)(h:lo≤k)(f:k≤l.length)(o:ns.length+k0 < ns0.length+k)(g:∃ t,ns=ns0 ++ t)(j:Wf ns)(hi:Ids n.kids ns.length):dA tot l k0 lo ns0 (Mist.add n k ns) :=
 ⟨fun _=>⟨_,rfl⟩,fun x a=>by
  injection a with a
  subst a
  exact⟨fun as q m e=>by
   injection e with b c d
   subst b;subst c;subst d;obtain⟨t,i⟩:=g;exact⟨h,f,by simp;omega,⟨t ++ [n],by rw [i,List.append_assoc]⟩,j.add hi,Ids.cons ⟨by omega,by simp;omega⟩ (Ids.nil _),by simp⟩,fun k e=>by cases e⟩⟩
theorem dA.give {tot:Prop}{k0 lo k:Nat}{ns0 ns:List Nd}{as:List Int}(h:lo≤k)(g:k≤l.length)(f:ns.length+k0≤ns0.length+k)(i:∃ t,ns=ns0 ++ t)(m:Wf ns)(hi:Ids as ns.length)(j:as ≠ []):dA tot l k0 lo ns0 (some (.ok as k ns)) :=
 ⟨fun _=>⟨_,rfl⟩,fun x a=>by
  injection a with a
  subst a
  exact⟨fun as o n e=>by
   injection e with b c d
   subst b;subst c;subst d;exact⟨h,g,f,i,m,hi,j⟩,fun k e=>by cases e⟩⟩
theorem dA.bad {tot:Prop}{k0 lo k:Nat}{ns0:List Nd}(d:k≤l.length):dA tot l k0 lo ns0 (some (.bad k)) :=
 ⟨fun _=>⟨_,rfl⟩,fun x a=>by
  injection a with a
  subst a;exact⟨fun as b c e=>(by cases e),fun b e=>by injection e with e;omega⟩⟩
theorem dA.need {tot:Prop}{k0 lo k:Nat}{ns0:List Nd}{s:Bs}{f:Option kF}(b:s ≠ [])(a:k≤l.length)(h:k < l.length→dA tot l k0 lo ns0 f):dA tot l k0 lo ns0 (Mist.need l s k f):=by
 unfold Mist.need;split
 ·rename_i e;exact h (dM e b)
 ·exact dA.bad a
theorem dA.fZ {tot:Prop}{k0 lo k c:Nat}{ns0:List Nd}{f:Option kF}(a:c ≠ 0)(b:k≤l.length)(h:k < l.length→dA tot l k0 lo ns0 f):dA tot l k0 lo ns0 (Mist.fZ l c k f):=by
 unfold Mist.fZ;split
 ·rename_i e;exact h (lq e a)
 ·exact dA.bad b
theorem dA.thn {tot c:Prop}{k0 lo e b:Nat}{ns0 d:List Nd}{r:Option kF}{f:List Int→Nat→List Nd→Option kF}(h:dA c l e b d r)(j:tot→c)(i:∀ as k ns,Goes l e b d as k ns→dA tot l k0 lo ns0 (f as k ns)):dA tot l k0 lo ns0 (Mist.thn r f):=by
 cases r with
 | none =>
  refine⟨fun q=>?_,fun x a=>by cases a⟩
  obtain⟨x,a⟩:=h.1 (j q);cases a
 | some y =>
  obtain⟨a,g⟩:=h.2 y rfl
  cases y with
  | bad k=>exact dA.bad (g k rfl)
  | ok as k ns=>exact i as k ns (a _ _ _ rfl)
theorem dA.on {tot f:Prop}{k0 lo i a:Nat}{ns0 b:List Nd}{r:Option kF}(h:dA f l i a b r)(c:tot→f)(m:lo≤a)(w:b.length+k0≤ns0.length+i)(n:∃ t,b=ns0 ++ t):dA tot l k0 lo ns0 r:=by
 refine⟨fun q=>h.1 (c q),fun x d=>?_⟩
 obtain⟨d,j⟩:=h.2 x d
 refine⟨fun as k ns e=>?_,j⟩
 have g:=d as k ns e;obtain⟨t,c⟩:=n;obtain⟨u,o⟩:=g.more;exact⟨Nat.le_trans m g.lo,g.le,by have:=g.few;omega,⟨t ++ u,by rw [o,c,List.append_assoc]⟩,g.wf,g.ids,g.ne⟩
theorem dA.imp {tot a:Prop}{k0 lo:Nat}{ns0:List Nd}{r:Option kF}(h:dA a l k0 lo ns0 r)(b:tot→a):dA tot l k0 lo ns0 r:=⟨fun q=>h.1 (b q),h.2⟩
theorem jM {a b c:List Nd}(h:∃ t,b=a ++ t)(k:∃ t,c=b ++ t):∃ t,c=a ++ t:=by
 obtain⟨t,rfl⟩:=h;obtain⟨u,rfl⟩:=k;exact⟨t ++ u,by rw [List.append_assoc]⟩
theorem fT (a:List Nd):∃ t,a=a ++ t:=⟨[],by simp⟩
theorem El.Kj (e:El):e.job.rank=11:=by cases e <;> rfl
theorem El.FK (e:El):e.job.reads=1:=by cases e <;> rfl
theorem Qr {v:Lv}{k:Nat}(h:¬ oV v (tx l k)=0):k < l.length∧(v=.or∨v=.and∨v=.cmp∨v=.sum∨v=.term):=by
 constructor
 ·rcases Nat.lt_or_ge k l.length with h1 | h1
  ·exact h1
  ·exfalso
   apply h
   have:tx l k=[]:=by unfold tx;rw [rU l k h1]
   rw [this]
   cases v <;> rfl
 ·cases v <;> simp [oV] at h ⊢
def Job.args:Job→List Int
 | .tail _ a=>[a]
 | .qh a=>[a]
 | .lC _ acc=>acc
 | _=>[]
theorem Ea:∀ (m:Nat) (j:Job) (k:Nat) (ns:List Nd),k≤l.length→Wf ns→Ids j.args ns.length→(∀ e u,j=.lC e u→u ≠ [])→dA (13 * (l.length - k)+j.rank < m) l k (k+j.reads) ns (run l en m j k ns)
 | 0,_,_,_,_,_,_,_=>⟨fun h=>by omega,fun x J=>by rw [run] at J;cases J⟩
 | m+1,j,k,ns,hk,f,hi,y=>by
  have i:=fun j k ns h1 f hi y=>Ea m j k ns h1 f hi y
  cases j with
  | expr =>
   simp only [Job.reads];rw [run];split
   ·rename_i e
    have h1:=dM e (by simp);refine (i .expr (k+1) ns (by omega) f (Ids.nil _) (by simp)).thn (fun h=>by simp only [Job.rank] at h ⊢;omega) fun a n o g=>dA.need (by simp) g.le fun A=>?_
    have d:=g.lo;have t:=g.few;simp only [Job.reads] at d
    refine (i .expr (n+1) o (by omega) g.wf (Ids.nil _) (by simp)).thn (fun h=>by simp only [Job.rank] at h ⊢;omega) fun b B D q=>dA.need (by simp) q.le fun R=>?_
    have C:=q.lo;have w:=q.few;simp only [Job.reads] at C
    refine (i .expr (B+1) D (by omega) q.wf (Ids.nil _) (by simp)).thn (fun h=>by simp only [Job.rank] at h ⊢;omega) fun c S P r=>?_
    have r1:=r.lo;have r2:=r.few;simp only [Job.reads] at r1
    have H:=g.hd;have I:=q.hd;have L:=r.hd;have l1:=q.len;have l2:=r.len;exact dA.add _ (by omega) r.le (by omega) (jM g.more (jM q.more r.more)) r.wf (Ids.cons (by omega) (Ids.cons (by omega) (Ids.cons L (Ids.nil _))))
   ·split
    ·rename_i e
     have h1:=dM e (by simp);refine dA.fZ (by simp) (by omega) fun d=>dA.need (by simp) (by omega) fun t=>?_
     refine (i .expr (k+3) ns (by omega) f (Ids.nil _) (by simp)).thn (fun h=>by simp only [Job.rank] at h ⊢;omega) fun a n o g=>dA.need (by simp) g.le fun K=>?_
     have d:=g.lo;have t:=g.few;simp only [Job.reads] at d
     refine (i .expr (n+1) o (by omega) g.wf (Ids.nil _) (by simp)).thn (fun h=>by simp only [Job.rank] at h ⊢;omega) fun b B D q=>?_
     have C:=q.lo;have w:=q.few;simp only [Job.reads] at C
     have H:=g.hd;have I:=q.hd;have l1:=q.len;exact dA.add _ (by omega) q.le (by omega) (jM g.more q.more) q.wf (Ids.cons (by omega) (Ids.cons I (Ids.nil _)))
    ·exact (i (.lv .or) k ns hk f (Ids.nil _) (by simp)).imp (fun h=>by simp only [Job.rank] at h ⊢;omega)
  | lv v =>
   have E:∀ v,(v=.or∨v=.and∨v=.cmp∨v=.sum∨v=.term)→dA (13 * (l.length - k)+(Job.lv v).rank < m+1) l k (k+1) ns (Mist.thn (run l en m (.lv v.below) k ns) fun a n o=>run l en m (.tail v (hd a)) n o):=by
    intro v hv;have N:3≤(Job.lv v).rank:=by cases v <;> decide
    have M:(Job.lv v.below).rank+1=(Job.lv v).rank:=by
     rcases hv with rfl | rfl | rfl | rfl | rfl <;> rfl
    refine (i (.lv v.below) k ns hk f (Ids.nil _) (by simp)).thn (fun h=>by omega) fun a n o g=>?_
    have d:=g.lo;have t:=g.few;simp only [Job.reads] at d
    exact (i (.tail v (hd a)) n o g.le g.wf (Ids.cons g.hd (Ids.nil _)) (by simp)).on (fun h=>by show 13 * (l.length - n)+1 < m;omega) (by simp only [Job.reads];omega) t g.more
   cases v with
   | not =>
    simp only [Job.reads];rw [run];split
    ·rename_i e
     have h1:=dM e (by simp);refine (i (.lv .not) (k+1) ns (by omega) f (Ids.nil _) (by simp)).thn (fun h=>by simp only [Job.rank] at h ⊢;omega) fun a n o g=>?_
     have d:=g.lo;have t:=g.few;simp only [Job.reads] at d
     exact dA.add _ (by omega) g.le (by omega) g.more g.wf (Ids.cons g.hd (Ids.nil _))
    ·exact (i (.lv .cmp) k ns hk f (Ids.nil _) (by simp)).imp (fun h=>by simp only [Job.rank] at h ⊢;omega)
   | unary =>
    simp only [Job.reads];rw [run];split
    ·rename_i e
     have h1:=dM e (by simp);refine (i (.lv .unary) (k+1) ns (by omega) f (Ids.nil _) (by simp)).thn (fun h=>by simp only [Job.rank] at h ⊢;omega) fun a n o g=>?_
     have d:=g.lo;have t:=g.few;simp only [Job.reads] at d
     exact dA.add _ (by omega) g.le (by omega) g.more g.wf (Ids.cons g.hd (Ids.nil _))
    ·exact (i .post k ns hk f (Ids.nil _) (by simp)).imp (fun h=>by simp only [Job.rank] at h ⊢;omega)
   | or=>rw [run] <;> first | exact E _ (by simp) | simp
   | and=>rw [run] <;> first | exact E _ (by simp) | simp
   | cmp=>rw [run] <;> first | exact E _ (by simp) | simp
   | sum=>rw [run] <;> first | exact E _ (by simp) | simp
   | term=>rw [run] <;> first | exact E _ (by simp) | simp
  | tail v a =>
   simp only [Job.reads,Job.args] at hi ⊢
   rw [run];split
   ·exact dA.give (aiv _) hk (aiv _) (fT _) f hi (by simp)
   ·rename_i e
    obtain⟨h1,hv⟩:=Qr e;have M:(Job.lv v.below).rank≤9:=by rcases hv with rfl | rfl | rfl | rfl | rfl <;> decide
    refine (i (.lv v.below) (k+1) ns (by omega) f (Ids.nil _) (by simp)).thn (fun h=>by have h:13 * (l.length - k)+1 < m+1:=h;omega) fun b n o g=>?_
    have d:=g.lo;have t:=g.few;have l1:=g.len;simp only [Job.reads] at d
    have H:=hi a (List.mem_cons_self ..);refine (dA.add (tot:=True) (k0:=k) (lo:=n) (ns0:=ns) ⟨oV v (tx l k),[],0,[a,hd b],pl l en k⟩ (aiv _) g.le (by omega) g.more g.wf (Ids.cons (by omega) (Ids.cons g.hd (Ids.nil _)))).thn (fun _=>trivial) fun c B D q=>?_
    have C:=q.lo;have w:=q.few;split
    ·exact dA.give (by omega) q.le w q.more q.wf (Ids.cons q.hd (Ids.nil _)) (by simp)
    ·exact (i (.tail v (hd c)) B D q.le q.wf (Ids.cons q.hd (Ids.nil _)) (by simp)).on (fun h=>by simp only [Job.rank] at h ⊢;omega) (by simp only [Job.reads];omega) w q.more
  | post =>
   simp only [Job.reads];rw [run];refine (i .atom k ns hk f (Ids.nil _) (by simp)).thn (fun h=>by simp only [Job.rank] at h ⊢;omega) fun a n o g=>?_
   have d:=g.lo;have t:=g.few;simp only [Job.reads] at d
   exact (i (.qh (hd a)) n o g.le g.wf (Ids.cons g.hd (Ids.nil _)) (by simp)).on (fun h=>by simp only [Job.rank] at h ⊢;omega) (by simp only [Job.reads];omega) t g.more
  | qh a =>
   simp only [Job.reads,Job.args] at hi ⊢
   rw [run];have H:=hi a (List.mem_cons_self ..);split
   ·rename_i e
    have h1:=dM e (by simp);refine dA.fZ (by simp) (by omega) fun d=>?_
    refine (dA.add (tot:=True) (k0:=k) (lo:=k+2) (ns0:=ns) ⟨22,tx l (k+1),0,[a],pl l en k⟩ (aiv _) (by omega) (by omega) (fT _) f hi).thn (fun _=>trivial) fun c n o q=>?_
    have C:=q.lo;have w:=q.few;exact (i (.qh (hd c)) n o q.le q.wf (Ids.cons q.hd (Ids.nil _)) (by simp)).on (fun h=>by simp only [Job.rank] at h ⊢;omega) (by simp only [Job.reads];omega) w q.more
   ·split
    ·rename_i e
     have h1:=dM e (by simp);refine (i .expr (k+1) ns (by omega) f (Ids.nil _) (by simp)).thn (fun h=>by simp only [Job.rank] at h ⊢;omega) fun b n o g=>dA.need (by simp) g.le fun A=>?_
     have d:=g.lo;have t:=g.few;have l1:=g.len;simp only [Job.reads] at d
     refine (dA.add (tot:=True) (k0:=k) (lo:=n+1) (ns0:=ns) ⟨23,[],0,[a,hd b],pl l en k⟩ (aiv _) (by omega) (by omega) g.more g.wf (Ids.cons (by omega) (Ids.cons g.hd (Ids.nil _)))).thn (fun _=>trivial) fun c B D q=>?_
     have C:=q.lo;have w:=q.few;exact (i (.qh (hd c)) B D q.le q.wf (Ids.cons q.hd (Ids.nil _)) (by simp)).on (fun h=>by simp only [Job.rank] at h ⊢;omega) (by simp only [Job.reads];omega) w q.more
    ·exact dA.give (aiv _) hk (aiv _) (fT _) f hi (by simp)
  | atom =>
   simp only [Job.reads];rw [run];split
   ·rename_i e;have h1:=lq e (by simp);exact dA.add _ (aiv _) (by omega) (by omega) (fT _) f (Ids.nil _)
   split
   ·rename_i e;have h1:=dM e (by simp);exact dA.add _ (aiv _) (by omega) (by omega) (fT _) f (Ids.nil _)
   split
   ·rename_i e;have h1:=dM e (by simp);exact dA.add _ (aiv _) (by omega) (by omega) (fT _) f (Ids.nil _)
   split
   ·rename_i e
    have h1:=dM e (by simp);refine (i .expr (k+1) ns (by omega) f (Ids.nil _) (by simp)).thn (fun h=>by simp only [Job.rank] at h ⊢;omega) fun a n o g=>dA.need (by simp) g.le fun A=>?_
    have d:=g.lo;have t:=g.few;simp only [Job.reads] at d
    exact dA.give (by omega) (by omega) (by omega) g.more g.wf (Ids.cons g.hd (Ids.nil _)) (by simp)
   split
   ·rename_i e
    have h1:=dM e (by simp);refine (i (.list .expr) (k+1) ns (by omega) f (Ids.nil _) (by simp)).thn (fun h=>by simp only [Job.rank] at h ⊢;omega) fun a n o g=>dA.need (by simp) g.le fun A=>?_
    have d:=g.lo;have t:=g.few;simp only [Job.reads] at d
    exact dA.add _ (by omega) (by omega) (by omega) g.more g.wf g.ids
   refine dA.fZ (by simp) hk fun G=>?_
   split
   ·rename_i e
    have h1:=dM e (by simp);split
    ·rename_i F
     have h2:=dM F (by simp);exact dA.add _ (by omega) (by omega) (by omega) (fT _) f (Ids.nil _)
    ·refine (i (.list .expr) (k+2) ns (by omega) f (Ids.nil _) (by simp)).thn (fun h=>by simp only [Job.rank] at h ⊢;omega) fun a n o g=>dA.need (by simp) g.le fun A=>?_
     have d:=g.lo;have t:=g.few;simp only [Job.reads] at d
     exact dA.add _ (by omega) (by omega) (by omega) g.more g.wf g.ids
   split
   ·rename_i e
    have h1:=dM e (by simp);refine (i (.list .put) (k+2) ns (by omega) f (Ids.nil _) (by simp)).thn (fun h=>by simp only [Job.rank] at h ⊢;omega) fun a n o g=>dA.need (by simp) g.le fun A=>?_
    have d:=g.lo;have t:=g.few;simp only [Job.reads] at d
    exact dA.add _ (by omega) (by omega) (by omega) g.more g.wf g.ids
   ·exact dA.add _ (aiv _) (by omega) (by omega) (fT _) f (Ids.nil _)
  | put =>
   simp only [Job.reads];rw [run];refine dA.fZ (by simp) hk fun G=>dA.need (by simp) (by omega) fun d=>?_
   refine (i .expr (k+2) ns (by omega) f (Ids.nil _) (by simp)).thn (fun h=>by simp only [Job.rank] at h ⊢;omega) fun a n o g=>?_
   have d:=g.lo;have t:=g.few;simp only [Job.reads] at d
   exact dA.add _ (by omega) g.le (by omega) g.more g.wf (Ids.cons g.hd (Ids.nil _))
  | param =>
   simp only [Job.reads];rw [run];refine dA.fZ (by simp) hk fun G=>dA.need (by simp) (by omega) fun d=>?_
   refine (i .typ (k+2) ns (by omega) f (Ids.nil _) (by simp)).thn (fun h=>by simp only [Job.rank] at h ⊢;omega) fun a n o g=>?_
   have d:=g.lo;have t:=g.few;simp only [Job.reads] at d
   exact dA.add _ (by omega) g.le (by omega) g.more g.wf (Ids.cons g.hd (Ids.nil _))
  | typ =>
   simp only [Job.reads];rw [run];split
   ·rename_i e;have h1:=dM e (by simp);exact dA.add _ (aiv _) (by omega) (by omega) (fT _) f (Ids.nil _)
   split
   ·rename_i e;have h1:=dM e (by simp);exact dA.add _ (aiv _) (by omega) (by omega) (fT _) f (Ids.nil _)
   split
   ·rename_i e
    have h1:=dM e (by simp);refine (i .typ (k+1) ns (by omega) f (Ids.nil _) (by simp)).thn (fun h=>by simp only [Job.rank] at h ⊢;omega) fun a n o g=>dA.need (by simp) g.le fun A=>dA.fZ (by simp) (by omega) fun Q=>dA.need (by simp) (by omega) fun K=>?_
    have d:=g.lo;have t:=g.few;simp only [Job.reads] at d
    exact dA.add _ (by omega) (by omega) (by omega) g.more g.wf (Ids.cons g.hd (Ids.nil _))
   ·exact dA.fZ (by simp) hk fun G=>dA.add _ (aiv _) (by omega) (by omega) (fT _) f (Ids.nil _)
  | list e =>
   simp only [Job.reads];rw [run];refine (i e.job k ns hk f (by cases e <;> exact Ids.nil _) (by cases e <;> simp [El.job])).thn (fun h=>by rw [El.Kj];simp only [Job.rank] at h;omega) fun a n o g=>?_
   have d:=g.lo;have t:=g.few;rw [El.FK] at d
   exact (i (.lC e [hd a]) n o g.le g.wf (Ids.cons g.hd (Ids.nil _)) (by intro _ _ h;injection h with _ h;rw [← h];simp)).on (fun h=>by simp only [Job.rank] at h ⊢;omega) (by simp only [Job.reads];omega) t g.more
  | lC e u =>
   simp only [Job.reads,Job.args] at hi ⊢
   rw [run];split
   ·rename_i F
    have h1:=dM F (by simp);refine (i e.job (k+1) ns (by omega) f (by cases e <;> exact Ids.nil _) (by cases e <;> simp [El.job])).thn (fun h=>by rw [El.Kj];simp only [Job.rank] at h;omega) fun a n o g=>?_
    have d:=g.lo;have t:=g.few;have l1:=g.len;rw [El.FK] at d
    exact (i (.lC e (u ++ [hd a])) n o g.le g.wf ((hi.mono l1).app (Ids.cons g.hd (Ids.nil _))) (by intro _ _ h;injection h with _ h;rw [← h];simp)).on (fun h=>by simp only [Job.rank] at h ⊢;omega) (by simp only [Job.reads];omega) (by omega) g.more
   ·exact dA.give (aiv _) hk (aiv _) (fT _) f hi (y e u rfl)
end
end Mist
