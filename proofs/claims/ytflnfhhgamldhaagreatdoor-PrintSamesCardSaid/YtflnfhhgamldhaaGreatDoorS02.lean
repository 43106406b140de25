/-
  A part of the proof.
-/
import Derived.Test.YtflnfhhgamldhaaGreatDoorS01
set_option linter.all false
set_option maxRecDepth 100000
namespace Mist
structure Tr where
 nodes:List Nd
 items:List Int
 deriving DecidableEq,Inhabited
def nd (t:Tr)(i:Nat):Nd:=t.nodes.getD i default
def within (n lo hi:Int):Bool:=decide (lo≤n) && decide (n≤hi)
def ji (k:Nat):Bool:=decide (1≤k) && decide (k≤26) && decide (k ≠ 25)
def jf (k:Nat):Bool:=decide (30≤k) && decide (k≤33)
def fM (k:Nat):Bool:=decide (40≤k) && decide (k≤46)
inductive Pd | expr | typ | param | put | num
 deriving DecidableEq
def Pd.is:Pd→Nat→Bool
 | .expr,k=>ji k
 | .typ,k=>jf k
 | .param,k=>decide (k=34)
 | .put,k=>decide (k=25)
 | .num,k=>decide (k=1)
structure Part where
 least:Int
 most:Int
 pd:Pd
 deriving DecidableEq
structure Shape where
 named:Bool
 low:Int
 high:Int
 parts:List Part
 deriving DecidableEq
def qE:Int:=-9223372036854775808
def lD:Int:=9223372036854775807
def asked (q:Int):Shape:=⟨false,1,8,if q=7 then [] else if q=8 then [⟨1,801,.expr⟩] else [⟨1,1,.expr⟩]⟩
def shapeOf (k:Nat)(n:Int):Option Shape :=
 if k=1 then some ⟨false,0,9999,[]⟩
 else if k=2 then some ⟨false,0,1,[]⟩
 else if k=3∨k=32∨k=45 then some ⟨true,0,0,[]⟩
 else if k=4∨k=5 then some ⟨false,0,0,[⟨1,1,.expr⟩]⟩
 else if k=19 then some ⟨false,0,0,[⟨3,3,.expr⟩]⟩
 else if k=20 then some ⟨true,0,0,[⟨2,2,.expr⟩]⟩
 else if k=21 then some ⟨true,0,0,[⟨0,801,.expr⟩]⟩
 else if k=22∨k=25∨k=43∨k=44 then some ⟨true,0,0,[⟨1,1,.expr⟩]⟩
 else if k=24 then some ⟨true,0,0,[⟨1,801,.put⟩]⟩
 else if k=26 then some ⟨false,0,0,[⟨1,801,.expr⟩]⟩
 else if k=30∨k=31 then some ⟨false,0,0,[]⟩
 else if k=33 then some ⟨false,qE,lD,[⟨1,1,.typ⟩]⟩
 else if k=34 then some ⟨true,0,0,[⟨1,1,.typ⟩]⟩
 else if k=40 then some ⟨true,0,0,[⟨2,2,.num⟩]⟩
 else if k=41 then some ⟨true,0,0,[⟨1,801,.param⟩]⟩
 else if k=42 then some ⟨true,0,lD,[⟨0,801,.param⟩,⟨1,1,.typ⟩,⟨1,1,.expr⟩]⟩
 else if k=46 then some (asked n)
 else if (6≤k∧k≤18)∨k=23 then some ⟨false,0,0,[⟨2,2,.expr⟩]⟩
 else none
def kL (ps:List Part):Int:=(ps.map (·.least)).sum
def fits:List Part→List Nat→Bool
 | [],ks=>ks.isEmpty
 | p :: ps,ks =>
  let n:=(ks.length:Int) - kL ps
  within n p.least p.most && ((ks.take n.toNat).all p.pd.is && fits ps (ks.drop n.toNat))
def kinds (t:Tr)(kids:List Int):List Nat:=kids.map fun c=>(nd t c.toNat).kind
def formed (t:Tr)(i:Nat):Bool :=
 match shapeOf (nd t i).kind (nd t i).n with
 | none=>false
 | some s=>within (nd t i).at_ 0 2000 && (s.named == !(nd t i).text.isEmpty) && (!s.named || isName (nd t i).text) && (nd t i).kids.all (within · 0 ((i:Int) - 1)) &&
  fits s.parts (kinds t (nd t i).kids) && (within (nd t i).n s.low s.high || ((nd t i).kind == 1 && within (nd t i).n (-9999) (-1)))
def large (t:Tr):Bool:=decide (800 < t.nodes.length) || decide (60 < t.items.length)
def walk (t:Tr):Nat→Nat→Bool→Nat→Option Nat
 | 0,_,_,_=>none
 | f+1,i,root,next =>
  match (nd t i).kids.foldl (fun (o:Option Nat) c=>o.bind fun x=>walk t f c.toNat false x) (some next) with
  | none=>none
  | some x=>if i=x then (if fM (nd t i).kind=root then some (x+1) else none) else none
def ordered (t:Tr):Bool :=
 match t.items.foldl (fun (o:Option Nat) (i:Int)=>o.bind fun x=>if within i x ((t.nodes.length:Int) - 1) then walk t (i.toNat+1) i.toNat true x else none) (some 0) with
 | none=>false
 | some x=>x == t.nodes.length
def signed (t:Tr):Bool :=
 (List.range t.nodes.length).all fun i=>!((nd t i).kind == 1 && decide ((nd t i).n < 0)) || t.items.any fun c=>(nd t c.toNat).kind == 40 && (nd t c.toNat).kids.contains (i:Int)
def sized (t:Tr)(n:Nd):Bool :=
 if n.kind=40 then within ((nd t (n.kids.getD 1 0).toNat).n - (nd t (n.kids.getD 0 0).toNat).n+1) 1 12
 else if n.kind=41 then decide (n.kids.length≤6)
 else if n.kind=42 then decide ((n.kids.length:Int) - 2≤4) && decide (n.n≤8)
 else if n.kind=33 then within n.n 1 6
 else if n.kind=26 then decide (n.kids.length≤6)
 else if n.kind=46 then !(n.n == 8) || decide (n.kids.length≤4)
 else true
def jB (k:Nat):Bool:=[3,20,21,22,24,25,32,34,40,41,42,43,44,45].contains k
def jY (n:Nd)(i:Nat)(k:Nat):Bool :=
 if n.kind=24 then decide (k=25)
 else if n.kind=41 then decide (k=34)
 else if n.kind=34∨n.kind=33 then jf k
 else if n.kind=40 then decide (k=1)
 else if n.kind=42 then (if i+1=n.kids.length then ji k else if i+2=n.kids.length then jf k else decide (k=34))
 else ji k
def jv (n:Nd):Bool :=
 if [1,2,3,30,31,32,45].contains n.kind then n.kids.length == 0
 else if [4,5,22,25,33,34,43,44].contains n.kind then n.kids.length == 1
 else if n.kind=19 then n.kids.length == 3
 else if n.kind=21 then true
 else if [24,26,41].contains n.kind then decide (1≤n.kids.length)
 else if n.kind=42 then decide (2≤n.kids.length)
 else if n.kind=46 then (if n.n=7 then n.kids.length == 0 else if n.n=8 then decide (1≤n.kids.length) else n.kids.length == 1)
 else n.kids.length == 2
def gU (n:Nd):Bool :=
 if n.kind=1 then within n.n (-9999) 9999
 else if n.kind=2 then within n.n 0 1
 else if n.kind=42 then decide (0≤n.n)
 else if n.kind=33 then true
 else if n.kind=46 then within n.n 1 8
 else n.n == 0
def qH (t:Tr)(i:Nat):Bool :=
 (ji (nd t i).kind || (nd t i).kind == 25 || jf (nd t i).kind || (nd t i).kind == 34 || fM (nd t i).kind) &&
 (jB (nd t i).kind == isName (nd t i).text) && (jB (nd t i).kind || (nd t i).text.isEmpty) && jv (nd t i) && gU (nd t i) && within (nd t i).at_ 0 2000 &&
 (List.range (nd t i).kids.length).all fun j=>jY (nd t i) j (nd t ((nd t i).kids.getD j 0).toNat).kind && !((nd t ((nd t i).kids.getD j 0).toNat).kind == 1 && decide ((nd t ((nd t i).kids.getD j 0).toNat).n < 0) && !((nd t i).kind == 40))
def Dw (out:List Int)(kids:List Int)(at0:Int):Option Int :=
 kids.foldr (fun c (o:Option Int)=>o.bind fun a=>if c ≠ a∨a < 0 then none else some (a - out.getD a.toNat 0)) (some at0)
def ng (o:Option (List Int))(n:Nd):Option (List Int) :=
 o.bind fun out=>(Dw out n.kids ((out.length:Int) - 1)).map fun a=>out ++ [(out.length:Int) - a]
def J6 (t:Tr):Option (List Int):=t.nodes.foldl ng (some [])
def Ik (t:Tr)(sz:List Int):Option Int :=
 t.items.foldr (fun c (o:Option Int)=>o.bind fun a=>if a < 0∨c ≠ a∨!fM (nd t a.toNat).kind then none else some (a - sz.getD a.toNat 0)) (some ((t.nodes.length:Int) - 1))
def Lg (t:Tr):Bool :=
 match J6 t with
 | none=>decide (t.nodes.length=0)
 | some sz=>(List.range t.nodes.length).all (qH t) && (Ik t sz == some (-1))
def jL (t:Tr)(n:Nd):Bool :=
 if n.kind=40 then decide ((nd t (n.kids.getD 0 0).toNat).n≤(nd t (n.kids.getD 1 0).toNat).n) && decide ((nd t (n.kids.getD 1 0).toNat).n - (nd t (n.kids.getD 0 0).toNat).n+1≤12)
 else if n.kind=41 then decide (n.kids.length≤6)
 else if n.kind=42 then decide ((n.kids.length:Int) - 2≤4) && decide (n.n≤8)
 else if n.kind=33 then within n.n 1 6
 else if n.kind=26 then decide (n.kids.length≤6)
 else if n.kind=46 then decide (n.kids.length≤4)
 else true
end Mist
namespace Mist
structure RS where
 k:Nat
 bad:Bool
 ns:List Nd
def kH (x:Bs):Int:=((numberOf x).1:Int)
def RS.dU (s:RS):RS:=⟨s.k+1,s.bad,s.ns⟩
def RS.fail (s:RS):RS:=⟨s.k,true,s.ns⟩
def RS.put (n:Nd)(s:RS):List Int × RS:=([(s.ns.length:Int)],⟨s.k,s.bad,s.ns ++ [n]⟩)
def jF:Option (List Int × RS)→(List Int→RS→Option (List Int × RS))→Option (List Int × RS)
 | none,_=>none
 | some (a,s),f=>f a s
section
variable (l:List Tok)
def RS.next (s:RS):Bs:=if s.bad then [] else tx l s.k
def RS.kind (s:RS):Nat:=if s.bad then 0 else (tg l s.k).kind
def RS.place (s:RS):Int:=(tg l s.k).at_
def RS.take (t:Bs)(s:RS):RS:=if s.next l=t then s.dU else s.fail
def RS.word (c:Nat)(s:RS):Bs × RS:=if s.kind l=c then (s.next l,s.dU) else ([],s.fail)
def bH:Nat→Job→RS→Option (List Int × RS)
 | 0,_,_=>none
 | n+1,.expr,s =>
  if s.next l=[105,102] then
   jF (bH n .expr s.dU) fun a s1=>jF (bH n .expr (s1.take l [116,104,101,110])) fun b s2=>jF (bH n .expr (s2.take l [101,108,115,101])) fun c s3 =>
    some (s3.put ⟨19,[],0,[hd a,hd b,hd c],s.place l⟩)
  else if s.next l=[108,101,116] then
   jF (bH n .expr ((s.dU.word l 1).2.take l [61])) fun a s1=>jF (bH n .expr (s1.take l [105,110])) fun b s2=>some (s2.put ⟨20,(s.dU.word l 1).1,0,[hd a,hd b],s.place l⟩)
  else bH n (.lv .or) s
 | n+1,.lv .not,s =>
  if s.next l=[110,111,116] then jF (bH n (.lv .not) s.dU) fun a s1=>some (s1.put ⟨5,[],0,[hd a],s.place l⟩)
  else bH n (.lv .cmp) s
 | n+1,.lv .unary,s =>
  if s.next l=[45] then jF (bH n (.lv .unary) s.dU) fun a s1=>some (s1.put ⟨4,[],0,[hd a],s.place l⟩)
  else bH n .post s
 | n+1,.lv v,s=>jF (bH n (.lv v.below) s) fun a s1=>bH n (.tail v (hd a)) s1
 | n+1,.tail v a,s =>
  if iJ v (s.next l)=0 then some ([a],s)
  else jF (bH n (.lv v.below) s.dU) fun b s1=>jF (some (s1.put ⟨iJ v (s.next l),[],0,[a,hd b],s.place l⟩)) fun c s2 =>
   if v=.cmp then some ([hd c],s2) else bH n (.tail v (hd c)) s2
 | n+1,.post,s=>jF (bH n .atom s) fun a s1=>bH n (.jq (hd a)) s1
 | n+1,.jq a,s =>
  if s.next l=[46] then jF (some ((s.dU.word l 1).2.put ⟨22,(s.dU.word l 1).1,0,[a],s.place l⟩)) fun c s1=>bH n (.jq (hd c)) s1
  else if s.next l=[91] then
   jF (bH n .expr s.dU) fun b s1=>jF (some ((s1.take l [93]).put ⟨23,[],0,[a,hd b],s.place l⟩)) fun c s2=>bH n (.jq (hd c)) s2
  else some ([a],s)
 | n+1,.atom,s =>
  if s.kind l=2 then some ((s.word l 2).2.put ⟨1,[],kH (s.word l 2).1,[],s.place l⟩)
  else if s.next l=[116,114,117,101] then some (s.dU.put ⟨2,[],1,[],s.place l⟩)
  else if s.next l=[102,97,108,115,101] then some (s.dU.put ⟨2,[],0,[],s.place l⟩)
  else if s.next l=[40] then jF (bH n .expr s.dU) fun a s1=>some ([hd a],s1.take l [41])
  else if s.next l=[91] then jF (bH n (.list .expr) s.dU) fun as s1=>some ((s1.take l [93]).put ⟨26,[],0,as,s.place l⟩)
  else if (s.word l 1).2.next l=[40] then
   if (s.word l 1).2.dU.next l=[41] then some (((s.word l 1).2.dU.take l [41]).put ⟨21,(s.word l 1).1,0,[],s.place l⟩)
   else jF (bH n (.list .expr) (s.word l 1).2.dU) fun as s1=>some ((s1.take l [41]).put ⟨21,(s.word l 1).1,0,as,s.place l⟩)
  else if (s.word l 1).2.next l=[123] then
   jF (bH n (.list .put) (s.word l 1).2.dU) fun as s1=>some ((s1.take l [125]).put ⟨24,(s.word l 1).1,0,as,s.place l⟩)
  else some ((s.word l 1).2.put ⟨3,(s.word l 1).1,0,[],s.place l⟩)
 | n+1,.put,s=>jF (bH n .expr ((s.word l 1).2.take l [58])) fun a s1=>some (s1.put ⟨25,(s.word l 1).1,0,[hd a],s.place l⟩)
 | n+1,.param,s=>jF (bH n .typ ((s.word l 1).2.take l [58])) fun a s1=>some (s1.put ⟨34,(s.word l 1).1,0,[hd a],s.place l⟩)
 | n+1,.typ,s =>
  if s.next l=[105,110,116] then some (s.dU.put ⟨30,[],0,[],s.place l⟩)
  else if s.next l=[98,111,111,108] then some (s.dU.put ⟨31,[],0,[],s.place l⟩)
  else if s.next l=[91] then
   jF (bH n .typ s.dU) fun a s1=>some ((((s1.take l [59]).word l 2).2.take l [93]).put ⟨33,[],kH ((s1.take l [59]).word l 2).1,[hd a],s.place l⟩)
  else some ((s.word l 1).2.put ⟨32,(s.word l 1).1,0,[],s.place l⟩)
 | n+1,.list e,s=>jF (bH n e.job s) fun a s1=>bH n (.gQ e [hd a]) s1
 | n+1,.gQ e acc,s =>
  if s.next l=[44] then jF (bH n e.job s.dU) fun a s1=>bH n (.gQ e (acc ++ [hd a])) s1
  else some (acc,s)
end
def bU (k M:Nat)(q:Option (List Int × RS)):Prop:=∃ as ns,q=some (as,⟨k,true,ns⟩)∧ns.length≤M
section
variable {l:List Tok} {k M M1:Nat} {ns:List Nd}
theorem jS:RS.next l ⟨k,true,ns⟩=[]:=rfl
theorem Mc:RS.kind l ⟨k,true,ns⟩=0:=rfl
theorem dN {t:Bs}(h:t ≠ []):RS.take l t ⟨k,true,ns⟩=⟨k,true,ns⟩:=by
 unfold RS.take;rw [jS,if_neg (fun e=>h e.symm)];rfl
theorem pq {c:Nat}(h:c ≠ 0):RS.word l c ⟨k,true,ns⟩=([],⟨k,true,ns⟩):=by
 unfold RS.word;rw [Mc,if_neg (fun e=>h e.symm)];rfl
theorem bU.put (n:Nd)(h:ns.length < M):bU k M (some (RS.put n ⟨k,true,ns⟩)):=⟨_,_,rfl,by simp;omega⟩
theorem bU.give (as:List Int)(h:ns.length≤M):bU k M (some (as,⟨k,true,ns⟩)):=⟨_,_,rfl,h⟩
theorem bU.jF {q:Option (List Int × RS)}{g:List Int→RS→Option (List Int × RS)}(h:bU k M1 q)(a:∀ as ns,ns.length≤M1→bU k M (g as ⟨k,true,ns⟩)):bU k M (Mist.jF q g):=by
 obtain⟨as,ns,rfl,b⟩:=h;exact a as ns b
theorem bU.mono {q:Option (List Int × RS)}(h:bU k M1 q)(b:M1≤M):bU k M q:=by
 obtain⟨as,ns,e,a⟩:=h;exact⟨as,ns,e,by omega⟩
theorem Mk (v:Lv):iJ v []=0:=by cases v <;> rfl
theorem KW (m:Nat)(v:Lv)(a:Int):bH l (m+1) (.tail v a) ⟨k,true,ns⟩=some ([a],⟨k,true,ns⟩):=by
 rw [bH,jS,if_pos (Mk v)]
theorem Gz (m:Nat)(a:Int):bH l (m+1) (.jq a) ⟨k,true,ns⟩=some ([a],⟨k,true,ns⟩):=by
 rw [bH,jS,if_neg (by simp),if_neg (by simp)]
theorem Gy (m:Nat)(e:El)(a:List Int):bH l (m+1) (.gQ e a) ⟨k,true,ns⟩=some (a,⟨k,true,ns⟩):=by
 rw [bH,jS,if_neg (by simp)]
theorem YC (m:Nat):bU k (ns.length+1) (bH l (m+1) .atom ⟨k,true,ns⟩):=by
 rw [bH,jS,Mc,pq (by simp)]
 repeat rw [if_neg (by simp)]
 exact bU.put _ (Nat.lt_succ_self _)
theorem RH (m:Nat):bU k (ns.length+1) (bH l (m+1) .typ ⟨k,true,ns⟩):=by
 rw [bH,jS,pq (by simp)]
 repeat rw [if_neg (by simp)]
 exact bU.put _ (Nat.lt_succ_self _)
theorem YE (m:Nat):bU k (ns.length+1) (bH l (m+2) .post ⟨k,true,ns⟩):=by
 rw [bH];exact (YC m).jF fun as ns h=>by rw [Gz];exact bU.give _ h
theorem TP (m:Nat):bU k (ns.length+1) (bH l (m+3) (.lv .unary) ⟨k,true,ns⟩):=by
 rw [bH,jS,if_neg (by simp)];exact YE m
theorem Dz (m:Nat)(v:Lv)(hv:v=.or∨v=.and∨v=.cmp∨v=.sum∨v=.term)(h:bU k (ns.length+1) (bH l (m+1) (.lv v.below) ⟨k,true,ns⟩)):bU k (ns.length+1) (bH l (m+2) (.lv v) ⟨k,true,ns⟩):=by
 have e:bH l (m+2) (.lv v) ⟨k,true,ns⟩=Mist.jF (bH l (m+1) (.lv v.below) ⟨k,true,ns⟩) fun a b=>bH l (m+1) (.tail v (hd a)) b:=by
  rcases hv with rfl | rfl | rfl | rfl | rfl <;> rw [bH] <;> simp
 rw [e];exact h.jF fun as ns h=>by rw [KW];exact bU.give _ h
theorem YF (m:Nat):bU k (ns.length+1) (bH l (m+4) (.lv .term) ⟨k,true,ns⟩):=Dz (m+2) .term (by simp) (TP m)
theorem abU (m:Nat):bU k (ns.length+1) (bH l (m+5) (.lv .sum) ⟨k,true,ns⟩):=Dz (m+3) .sum (by simp) (YF m)
theorem abR (m:Nat):bU k (ns.length+1) (bH l (m+6) (.lv .cmp) ⟨k,true,ns⟩):=Dz (m+4) .cmp (by simp) (abU m)
theorem abS (m:Nat):bU k (ns.length+1) (bH l (m+7) (.lv .not) ⟨k,true,ns⟩):=by
 rw [bH,jS,if_neg (by simp)];exact abR m
theorem abQ (m:Nat):bU k (ns.length+1) (bH l (m+8) (.lv .and) ⟨k,true,ns⟩):=Dz (m+6) .and (by simp) (abS m)
theorem aeA (m:Nat):bU k (ns.length+1) (bH l (m+9) (.lv .or) ⟨k,true,ns⟩):=Dz (m+7) .or (by simp) (abQ m)
theorem Dx (m:Nat):bU k (ns.length+1) (bH l (m+10) .expr ⟨k,true,ns⟩):=by
 rw [bH,jS,if_neg (by simp),if_neg (by simp)];exact aeA m
theorem abT (m:Nat):bU k (ns.length+2) (bH l (m+11) .put ⟨k,true,ns⟩):=by
 rw [bH,pq (by simp),dN (by simp)];exact (Dx m).jF fun as ns h=>bU.put _ (by omega)
theorem TN (m:Nat):bU k (ns.length+2) (bH l (m+11) .param ⟨k,true,ns⟩):=by
 rw [bH,pq (by simp),dN (by simp)];exact (RH (m+9)).jF fun as ns h=>bU.put _ (by omega)
theorem aez (m:Nat)(e:El):bU k (ns.length+2) (bH l (m+11) e.job ⟨k,true,ns⟩):=by
 cases e
 ·exact (Dx (m+1)).mono (by omega)
 ·exact abT m
 ·exact TN m
theorem YD (m:Nat)(e:El):bU k (ns.length+2) (bH l (m+12) (.list e) ⟨k,true,ns⟩):=by
 rw [bH];exact (aez m e).jF fun as ns h=>by rw [Gy];exact bU.give _ h
def iT (M:Nat)(r:Option kX)(q:Option (List Int × RS)):Prop :=
 (∀ as k ns,r=some (.ok as k ns)→q=some (as,⟨k,false,ns⟩))∧∀ k,r=some (.bad k)→bU k M q
theorem iT.add (n:Nd):iT M (Mist.add n k ns) (some (RS.put n ⟨k,false,ns⟩)) :=
 ⟨fun as f d e=>(by injection e with e;injection e with a b c;subst a;subst b;subst c;rfl),fun k e=>(by injection e with e;cases e)⟩
theorem iT.give (as:List Int):iT M (some (.ok as k ns)) (some (as,⟨k,false,ns⟩)) :=
 ⟨fun as f d e=>(by injection e with e;injection e with a b c;subst a;subst b;subst c;rfl),fun k e=>(by injection e with e;cases e)⟩
theorem iT.thn {r:Option kX}{q:Option (List Int × RS)}{f:List Int→Nat→List Nd→Option kX}{g:List Int→RS→Option (List Int × RS)}(h:iT M1 r q)
  (a:∀ as k ns,r=some (.ok as k ns)→iT M (f as k ns) (g as ⟨k,false,ns⟩)) (b:∀ as k ns,ns.length≤M1→bU k M (g as ⟨k,true,ns⟩)):iT M (Mist.thn r f) (Mist.jF q g):=by
 cases r with
 | none=>exact⟨fun _ _ _ e=>(by cases e),fun _ e=>(by cases e)⟩
 | some x =>
  cases x with
  | ok as k ns=>rw [h.1 as k ns rfl];exact a as k ns rfl
  | bad k =>
   obtain⟨as,ns,rfl,c⟩:=h.2 k rfl;exact⟨fun _ _ _ e=>(by injection e with e;cases e),fun d e=>by injection e with e;injection e with e;subst e;exact b as k ns c⟩
theorem iT.need {t:Bs}{f:Option kX}{q:Option (List Int × RS)}(h:tx l k=t→RS.take l t ⟨k,false,ns⟩=⟨k+1,false,ns⟩→iT M f q)(b:RS.take l t ⟨k,false,ns⟩=⟨k,true,ns⟩→bU k M q):iT M (Mist.need l t k f) q:=by
 unfold Mist.need;by_cases e:tx l k=t
 ·rw [if_pos e];exact h e (if_pos e)
 ·rw [if_neg e];exact⟨fun _ _ _ e=>(by injection e with e;cases e),fun c a=>by injection a with a;injection a with a;subst a;exact b (if_neg e)⟩
theorem iT.dQ {c:Nat}{f:Option kX}{q:Option (List Int × RS)}(h:(tg l k).kind=c→RS.word l c ⟨k,false,ns⟩=(tx l k,⟨k+1,false,ns⟩)→iT M f q)(b:RS.word l c ⟨k,false,ns⟩=([],⟨k,true,ns⟩)→bU k M q) :
  iT M (Mist.dQ l c k f) q:=by
 unfold Mist.dQ;by_cases e:(tg l k).kind=c
 ·rw [if_pos e];exact h e (if_pos e)
 ·rw [if_neg e];exact⟨fun _ _ _ e=>(by injection e with e;cases e),fun d a=>by injection a with a;injection a with a;subst a;exact b (if_neg e)⟩
theorem iT.mono {r:Option kX}{q:Option (List Int × RS)}(h:iT M1 r q)(a:M1≤M):iT M r q:=⟨h.1,fun k e=>(h.2 k e).mono a⟩
theorem gu:RS.next l ⟨k,false,ns⟩=tx l k:=rfl
theorem Hl:RS.kind l ⟨k,false,ns⟩=(tg l k).kind:=rfl
theorem gX {en:Int}{b:Bool}(h:k < l.length):RS.place l ⟨k,b,ns⟩=pl l en k:=by unfold RS.place pl;rw [if_pos h]
theorem fB (m:Nat)(h:10≤m):bU k (ns.length+1) (bH l m .expr ⟨k,true,ns⟩):=by
 obtain⟨m,rfl⟩:∃ n,m=n+10:=⟨m - 10,by omega⟩;exact Dx m
theorem uD (m:Nat)(h:1≤m):bU k (ns.length+1) (bH l m .typ ⟨k,true,ns⟩):=by
 obtain⟨m,rfl⟩:∃ n,m=n+1:=⟨m - 1,by omega⟩;exact RH m
theorem rV (m:Nat)(e:El)(h:12≤m):bU k (ns.length+2) (bH l m (.list e) ⟨k,true,ns⟩):=by
 obtain⟨m,rfl⟩:∃ n,m=n+12:=⟨m - 12,by omega⟩;exact YD m e
theorem zO (m:Nat)(v:Lv)(a:Int)(h:1≤m):bH l m (.tail v a) ⟨k,true,ns⟩=some ([a],⟨k,true,ns⟩):=by
 obtain⟨m,rfl⟩:∃ n,m=n+1:=⟨m - 1,by omega⟩;exact KW m v a
theorem nX (m:Nat)(a:Int)(h:1≤m):bH l m (.jq a) ⟨k,true,ns⟩=some ([a],⟨k,true,ns⟩):=by
 obtain⟨m,rfl⟩:∃ n,m=n+1:=⟨m - 1,by omega⟩;exact Gz m a
theorem Dy (m:Nat)(e:El)(a:List Int)(h:1≤m):bH l m (.gQ e a) ⟨k,true,ns⟩=some (a,⟨k,true,ns⟩):=by
 obtain⟨m,rfl⟩:∃ n,m=n+1:=⟨m - 1,by omega⟩;exact Gy m e a
variable {en:Int}
theorem dG {m:Nat}{j:Job}{as:List Int}{d:Nat}{b:List Nd}(e:run l en m j k ns=some (.ok as d b))(f:k≤l.length)(g:Wf ns)(hi:Ids j.args ns.length)(c:∀ e a,j=.gQ e a→a ≠ []):Goes l k (k+j.reads) ns as d b :=
 ((Fq m j k ns f g hi c).2 _ e).1 as d b rfl
theorem uY (a:∀ t ∈ l,Mist.kind t.text=t.kind)(h:(tg l k).kind=2):kH (tx l k)=numOf (tx l k):=by
 have h1:k < l.length:=h_ h (by simp);have h2:=a _ (tu l k h1);unfold kH tx;rw [nM _ (by rw [h2,h])]
theorem Nq (V:∀ t ∈ l,Mist.kind t.text=t.kind):∀ (m:Nat) (j:Job) (k:Nat) (ns:List Nd),k≤l.length→ns.length≤k→Wf ns→Ids j.args ns.length→(∀ e J,j=.gQ e J→J ≠ [])→13 * (l.length - k)+j.rank+16 < m →
  iT (l.length+4 * m) (run l en m j k ns) (bH l m j ⟨k,false,ns⟩)
 | 0,_,_,_,_,_,_,_,_,h=>by omega
 | m+1,j,k,ns,hk,L,n,hi,T,r=>by
  have o:=fun j k ns h1 L n hi T r=>Nq V m j k ns h1 L n hi T r
  cases j with
  | expr =>
   simp only [Job.rank] at r
   rw [run,bH,gu];by_cases e:tx l k=[105,102]
   ·rw [if_pos e,if_pos e];have h1:=cB e (by simp);refine (o .expr (k+1) ns (by omega) (by omega) n (Ids.nil _) (by simp) (by simp only [Job.rank];omega)).thn (fun a f d r1=>?_) (fun as f d i=>?_)
    ·have g:=dG r1 (by omega) n (Ids.nil _) (by simp);have A:=g.lo;have F:=g.few;have G:=g.le;simp only [Job.reads] at A
     refine iT.need (ns:=d) (fun y E=>?_) (fun E=>?_)
     ·have h2:=cB y (by simp)
      (try dsimp only);rw [E]
      refine (o .expr (f+1) d (by omega) (by omega) g.wf (Ids.nil _) (by simp) (by simp only [Job.rank];omega)).thn (fun b I C r2=>?_) (fun P I C i=>?_)
      ·have q:=dG r2 (by omega) g.wf (Ids.nil _) (by simp);have q1:=q.lo;have q2:=q.few;have q3:=q.le;simp only [Job.reads] at q1
       refine iT.need (ns:=C) (fun u w=>?_) (fun w=>?_)
       ·have h3:=cB u (by simp)
        (try dsimp only);rw [w]
        refine (o .expr (I+1) C (by omega) (by omega) q.wf (Ids.nil _) (by simp) (by simp only [Job.rank];omega)).thn (fun c k3 D Q=>?_) (fun cs k3 D i=>?_)
        ·rw [gX h1];exact iT.add _
        ·exact bU.put _ (by omega)
       ·(try dsimp only);rw [w]
        exact (fB m (by omega)).jF fun cs D i=>bU.put _ (by omega)
      ·(try dsimp only);rw [dN (by simp)]
       exact (fB m (by omega)).jF fun cs D i=>bU.put _ (by omega)
     ·(try dsimp only);rw [E]
      refine (fB m (by omega)).jF fun P C i=>?_
      (try dsimp only);rw [dN (by simp)]
      exact (fB m (by omega)).jF fun cs D i=>bU.put _ (by omega)
    ·(try dsimp only);rw [dN (by simp)]
     refine (fB m (by omega)).jF fun P C i=>?_
     (try dsimp only);rw [dN (by simp)]
     exact (fB m (by omega)).jF fun cs D i=>bU.put _ (by omega)
   ·rw [if_neg e,if_neg e];by_cases e:tx l k=[108,101,116]
    ·rw [if_pos e,if_pos e];have h1:=cB e (by simp)
     have R:∀ (x:Bs) f d,d.length≤l.length+4 * m+1→bU f (l.length+4 * (m+1)) (Mist.jF (bH l m .expr ⟨f,true,d⟩) fun a W=>Mist.jF (bH l m .expr (W.take l [105,110])) fun b s2=>some (s2.put ⟨20,x,0,[hd a,hd b],RS.place l ⟨k,false,ns⟩⟩)):=by
      intro x f d i;refine (fB m (by omega)).jF fun P C i=>?_
      (try dsimp only);rw [dN (by simp)]
      exact (fB m (by omega)).jF fun cs D i=>bU.put _ (by omega)
     have K:RS.dU ⟨k,false,ns⟩=⟨k+1,false,ns⟩:=rfl;rw [K];refine iT.dQ (ns:=ns) (fun y E=>?_) (fun E=>?_)
     ·rw [E];refine iT.need (ns:=ns) (fun u w=>?_) (fun w=>?_)
      ·have h2:=cB u (by simp)
       (try dsimp only);rw [w]
       refine (o .expr (k+3) ns (by omega) (by omega) n (Ids.nil _) (by simp) (by simp only [Job.rank];omega)).thn (fun a f d r1=>?_) (fun as f d i=>?_)
       ·have g:=dG r1 (by omega) n (Ids.nil _) (by simp);have A:=g.lo;have F:=g.few;have G:=g.le;simp only [Job.reads] at A
        refine iT.need (ns:=d) (fun B N=>?_) (fun N=>?_)
        ·have h3:=cB B (by simp)
         (try dsimp only);rw [N]
         refine (o .expr (f+1) d (by omega) (by omega) g.wf (Ids.nil _) (by simp) (by simp only [Job.rank];omega)).thn (fun b I C r2=>?_) (fun P I C i=>?_)
         ·rw [gX h1];exact iT.add _
         ·exact bU.put _ (by omega)
        ·(try dsimp only);rw [N]
         exact (fB m (by omega)).jF fun cs D i=>bU.put _ (by omega)
       ·(try dsimp only);rw [dN (by simp)]
        exact (fB m (by omega)).jF fun cs D i=>bU.put _ (by omega)
      ·(try dsimp only);rw [w]
       exact R _ _ _ (by omega)
     ·rw [E];(try dsimp only);rw [dN (by simp)];exact R _ _ _ (by omega)
    ·rw [if_neg e,if_neg e];exact (o (.lv .or) k ns hk L n (Ids.nil _) (by simp) (by simp only [Job.rank];omega)).mono (by omega)
  | lv v =>
   have S:∀ v,(v=.or∨v=.and∨v=.cmp∨v=.sum∨v=.term)→13 * (l.length - k)+(Job.lv v).rank+16 < m+1→iT (l.length+4 * (m+1)) (Mist.thn (run l en m (.lv v.below) k ns) fun a f d=>run l en m (.tail v (hd a)) f d) (Mist.jF (bH l m (.lv v.below) ⟨k,false,ns⟩) fun a W=>bH l m (.tail v (hd a)) W):=by
    intro v hv r;have Z:3≤(Job.lv v).rank:=by cases v <;> decide
    have Y:(Job.lv v.below).rank+1=(Job.lv v).rank:=by
     rcases hv with rfl | rfl | rfl | rfl | rfl <;> rfl
    refine (o (.lv v.below) k ns hk L n (Ids.nil _) (by simp) (by omega)).thn (fun a f d r1=>?_) (fun as f d i=>?_)
    ·have g:=dG r1 hk n (Ids.nil _) (by simp);have A:=g.lo;have F:=g.few;have G:=g.le;simp only [Job.reads] at A
     exact (o (.tail v (hd a)) f d g.le (by omega) g.wf (Ids.cons g.hd (Ids.nil _)) (by simp) (by show 13 * (l.length - f)+1+16 < m;omega)).mono (by omega)
    ·(try dsimp only);rw [zO m v _ (by omega)]
     exact bU.give _ (by omega)
   cases v with
   | not =>
    simp only [Job.rank] at r
    rw [run,bH,gu];by_cases e:tx l k=[110,111,116]
    ·rw [if_pos e,if_pos e];have h1:=cB e (by simp);refine (o (.lv .not) (k+1) ns (by omega) (by omega) n (Ids.nil _) (by simp) (by simp only [Job.rank];omega)).thn (fun a f d r1=>?_) (fun as f d i=>?_)
     ·rw [gX h1];exact iT.add _
     ·exact bU.put _ (by omega)
    ·rw [if_neg e,if_neg e];exact (o (.lv .cmp) k ns hk L n (Ids.nil _) (by simp) (by simp only [Job.rank];omega)).mono (by omega)
   | unary =>
    simp only [Job.rank] at r
    rw [run,bH,gu];by_cases e:tx l k=[45]
    ·rw [if_pos e,if_pos e];have h1:=cB e (by simp);refine (o (.lv .unary) (k+1) ns (by omega) (by omega) n (Ids.nil _) (by simp) (by simp only [Job.rank];omega)).thn (fun a f d r1=>?_) (fun as f d i=>?_)
     ·rw [gX h1];exact iT.add _
     ·exact bU.put _ (by omega)
    ·rw [if_neg e,if_neg e];exact (o .post k ns hk L n (Ids.nil _) (by simp) (by simp only [Job.rank];omega)).mono (by omega)
   | or=>rw [run,bH] <;> first | exact S _ (by simp) r | simp
   | and=>rw [run,bH] <;> first | exact S _ (by simp) r | simp
   | cmp=>rw [run,bH] <;> first | exact S _ (by simp) r | simp
   | sum=>rw [run,bH] <;> first | exact S _ (by simp) r | simp
   | term=>rw [run,bH] <;> first | exact S _ (by simp) r | simp
  | tail v a =>
   have r:13 * (l.length - k)+1+16 < m+1:=r;simp only [Job.args] at hi
   rw [run,bH,gu];by_cases e:iJ v (tx l k)=0
   ·rw [if_pos e,if_pos e];exact iT.give _
   ·rw [if_neg e,if_neg e];obtain⟨h1,hv⟩:=Cv e;have Y:(Job.lv v.below).rank≤9:=by rcases hv with rfl | rfl | rfl | rfl | rfl <;> decide
    refine (o (.lv v.below) (k+1) ns (by omega) (by omega) n (Ids.nil _) (by simp) (by omega)).thn (fun b f d r1=>?_) (fun P f d i=>?_)
    ·have g:=dG r1 (by omega) n (Ids.nil _) (by simp);have A:=g.lo;have F:=g.few;have G:=g.le;have l1:=g.len;simp only [Job.reads] at A
     have X:=hi a (List.mem_cons_self ..);rw [gX (en:=en) h1];refine (iT.add (M:=0) _).thn (fun c I C r2=>?_) (fun as I C i=>?_)
     ·injection r2 with r2;injection r2 with r2 Q U
      subst r2;subst Q;subst U;by_cases H:v=.cmp
      ·rw [if_pos H];(try dsimp only);rw [if_pos H];exact iT.give _
      ·rw [if_neg H];(try dsimp only);rw [if_neg H];refine (o (.tail v _) f _ g.le ?_ ?_ ?_ (by simp) (by show 13 * (l.length - f)+1+16 < m;omega)).mono (by omega)
       ·simp;omega
       ·exact g.wf.add (Ids.cons (by omega) (Ids.cons g.hd (Ids.nil _)))
       ·exact Ids.cons ⟨by simp [hd],by simp [hd];omega⟩ (Ids.nil _)
     ·by_cases H:v=.cmp
      ·(try dsimp only);rw [if_pos H];exact bU.give _ (by omega)
      ·(try dsimp only);rw [if_neg H,zO m v _ (by omega)];exact bU.give _ (by omega)
    ·show bU f _ (if v=.cmp then _ else bH l m (.tail v _) _)
     by_cases H:v=.cmp
     ·rw [if_pos H];exact bU.give _ (by simp;omega)
     ·rw [if_neg H,zO m v _ (by omega)];exact bU.give _ (by simp;omega)
  | post =>
   simp only [Job.rank] at r
   rw [run,bH];refine (o .atom k ns hk L n (Ids.nil _) (by simp) (by simp only [Job.rank];omega)).thn (fun a f d r1=>?_) (fun as f d i=>?_)
   ·have g:=dG r1 hk n (Ids.nil _) (by simp);have A:=g.lo;have F:=g.few;have G:=g.le;simp only [Job.reads] at A
    exact (o (.jq (hd a)) f d g.le (by omega) g.wf (Ids.cons g.hd (Ids.nil _)) (by simp) (by show 13 * (l.length - f)+1+16 < m;omega)).mono (by omega)
   ·(try dsimp only);rw [nX m _ (by omega)]
    exact bU.give _ (by omega)
  | jq a =>
   have r:13 * (l.length - k)+1+16 < m+1:=r;simp only [Job.args] at hi
   have X:=hi a (List.mem_cons_self ..);have K:RS.dU ⟨k,false,ns⟩=⟨k+1,false,ns⟩:=rfl;rw [run,bH,gu,K];by_cases e:tx l k=[46]
   ·rw [if_pos e,if_pos e];have h1:=cB e (by simp);refine iT.dQ (ns:=ns) (fun y E=>?_) (fun E=>?_)
    ·have h2:=h_ y (by simp);rw [E,gX (en:=en) h1];refine (iT.add (M:=0) _).thn (fun c I C r2=>?_) (fun as I C i=>?_)
     ·injection r2 with r2;injection r2 with r2 Q U
      subst r2;subst Q;subst U;refine (o (.jq _) (k+2) _ (by omega) ?_ ?_ ?_ (by simp) (by show 13 * (l.length - (k+2))+1+16 < m;omega)).mono (by omega)
      ·simp;omega
      ·exact n.add (Ids.cons X (Ids.nil _))
      ·exact Ids.cons ⟨by simp [hd],by simp [hd];omega⟩ (Ids.nil _)
     ·(try dsimp only);rw [nX m _ (by omega)];exact bU.give _ (by omega)
    ·rw [E]
     show bU (k+1) _ (bH l m (.jq _) ⟨k+1,true,ns ++ [_]⟩)
     rw [nX m _ (by omega)];exact bU.give _ (by simp;omega)
   ·rw [if_neg e,if_neg e];by_cases e:tx l k=[91]
    ·rw [if_pos e,if_pos e];have h1:=cB e (by simp);refine (o .expr (k+1) ns (by omega) (by omega) n (Ids.nil _) (by simp) (by simp only [Job.rank];omega)).thn (fun b f d r1=>?_) (fun P f d i=>?_)
     ·have g:=dG r1 (by omega) n (Ids.nil _) (by simp);have A:=g.lo;have F:=g.few;have G:=g.le;have l1:=g.len;simp only [Job.reads] at A
      refine iT.need (ns:=d) (fun y E=>?_) (fun E=>?_)
      ·have h2:=cB y (by simp)
       (try dsimp only);rw [E,gX (en:=en) h1]
       refine (iT.add (M:=0) _).thn (fun c I C r2=>?_) (fun as I C i=>?_)
       ·injection r2 with r2;injection r2 with r2 Q U
        subst r2;subst Q;subst U;refine (o (.jq _) (f+1) _ (by omega) ?_ ?_ ?_ (by simp) (by show 13 * (l.length - (f+1))+1+16 < m;omega)).mono (by omega)
        ·simp;omega
        ·exact g.wf.add (Ids.cons (by omega) (Ids.cons g.hd (Ids.nil _)))
        ·exact Ids.cons ⟨by simp [hd],by simp [hd];omega⟩ (Ids.nil _)
       ·(try dsimp only);rw [nX m _ (by omega)];exact bU.give _ (by omega)
      ·(try dsimp only);rw [E]
       show bU f _ (bH l m (.jq _) ⟨f,true,d ++ [_]⟩)
       rw [nX m _ (by omega)];exact bU.give _ (by simp;omega)
     ·(try dsimp only);rw [dN (by simp)]
      show bU f _ (bH l m (.jq _) ⟨f,true,d ++ [_]⟩)
      rw [nX m _ (by omega)];exact bU.give _ (by simp;omega)
    ·rw [if_neg e,if_neg e];exact iT.give _
  | atom =>
   simp only [Job.rank] at r
   have K:RS.dU ⟨k,false,ns⟩=⟨k+1,false,ns⟩:=rfl;rw [run,bH,gu,Hl,K];by_cases e:(tg l k).kind=2
   ·rw [if_pos e,if_pos e];have h1:=h_ e (by simp);rw [show RS.word l 2 ⟨k,false,ns⟩=(tx l k,⟨k+1,false,ns⟩) from if_pos e,uY V e,gX (en:=en) h1];exact iT.add _
   rw [if_neg e,if_neg e];by_cases e:tx l k=[116,114,117,101]
   ·rw [if_pos e,if_pos e,gX (en:=en) (cB e (by simp))];exact iT.add _
   rw [if_neg e,if_neg e];by_cases e:tx l k=[102,97,108,115,101]
   ·rw [if_pos e,if_pos e,gX (en:=en) (cB e (by simp))];exact iT.add _
   rw [if_neg e,if_neg e];by_cases e:tx l k=[40]
   ·rw [if_pos e,if_pos e];have h1:=cB e (by simp);refine (o .expr (k+1) ns (by omega) (by omega) n (Ids.nil _) (by simp) (by simp only [Job.rank];omega)).thn (fun a f d r1=>?_) (fun as f d i=>?_)
    ·refine iT.need (ns:=d) (fun y E=>?_) (fun E=>?_)
     ·(try dsimp only);rw [E];exact iT.give _
     ·have g:=dG r1 (by omega) n (Ids.nil _) (by simp);have F:=g.few;have G:=g.le
      (try dsimp only);rw [E];exact bU.give _ (by omega)
    ·(try dsimp only);rw [dN (by simp)];exact bU.give _ (by omega)
   rw [if_neg e,if_neg e];by_cases e:tx l k=[91]
   ·rw [if_pos e,if_pos e];have h1:=cB e (by simp);refine (o (.list .expr) (k+1) ns (by omega) (by omega) n (Ids.nil _) (by simp) (by simp only [Job.rank];omega)).thn (fun a f d r1=>?_) (fun as f d i=>?_)
    ·have g:=dG r1 (by omega) n (Ids.nil _) (by simp);have F:=g.few;have G:=g.le;refine iT.need (ns:=d) (fun y E=>?_) (fun E=>?_)
     ·(try dsimp only);rw [E,gX (en:=en) h1];exact iT.add _
     ·(try dsimp only);rw [E];exact bU.put _ (by omega)
    ·(try dsimp only);rw [dN (by simp)];exact bU.put _ (by omega)
   rw [if_neg e,if_neg e];refine iT.dQ (ns:=ns) (fun y E=>?_) (fun E=>?_)
   ·have h1:=h_ y (by simp);rw [E]
    try dsimp only
    rw [gu,show RS.dU ⟨k+1,false,ns⟩=⟨k+2,false,ns⟩ from rfl,gu,gX (en:=en) h1];by_cases u:tx l (k+1)=[40]
    ·have h2:=cB u (by simp);rw [if_pos u,if_pos u];by_cases B:tx l (k+2)=[41]
     ·rw [if_pos B,if_pos B,show RS.take l [41] ⟨k+2,false,ns⟩=⟨k+3,false,ns⟩ from if_pos B];exact iT.add _
     ·rw [if_neg B,if_neg B];refine (o (.list .expr) (k+2) ns (by omega) (by omega) n (Ids.nil _) (by simp) (by simp only [Job.rank];omega)).thn (fun a f d r1=>?_) (fun as f d i=>?_)
      ·have g:=dG r1 (by omega) n (Ids.nil _) (by simp);have F:=g.few;have G:=g.le;refine iT.need (ns:=d) (fun y E=>?_) (fun E=>?_)
       ·(try dsimp only);rw [E];exact iT.add _
       ·(try dsimp only);rw [E];exact bU.put _ (by omega)
      ·(try dsimp only);rw [dN (by simp)];exact bU.put _ (by omega)
    ·rw [if_neg u,if_neg u];by_cases B:tx l (k+1)=[123]
     ·have h2:=cB B (by simp);rw [if_pos B,if_pos B];refine (o (.list .put) (k+2) ns (by omega) (by omega) n (Ids.nil _) (by simp) (by simp only [Job.rank];omega)).thn (fun a f d r1=>?_) (fun as f d i=>?_)
      ·have g:=dG r1 (by omega) n (Ids.nil _) (by simp);have F:=g.few;have G:=g.le;refine iT.need (ns:=d) (fun y E=>?_) (fun E=>?_)
       ·(try dsimp only);rw [E];exact iT.add _
       ·(try dsimp only);rw [E];exact bU.put _ (by omega)
      ·(try dsimp only);rw [dN (by simp)];exact bU.put _ (by omega)
     ·rw [if_neg B,if_neg B];exact iT.add _
   ·rw [E]
    try dsimp only
    rw [jS,if_neg (by simp),if_neg (by simp)];exact bU.put _ (by omega)
  | put =>
   simp only [Job.rank] at r
   rw [run,bH];refine iT.dQ (ns:=ns) (fun y E=>?_) (fun E=>?_)
   ·have h1:=h_ y (by simp);rw [E];(try dsimp only);refine iT.need (ns:=ns) (fun u w=>?_) (fun w=>?_)
    ·have h2:=cB u (by simp);rw [w];refine (o .expr (k+2) ns (by omega) (by omega) n (Ids.nil _) (by simp) (by simp only [Job.rank];omega)).thn (fun a f d r1=>?_) (fun as f d i=>?_)
     ·rw [gX (en:=en) h1];exact iT.add _
     ·exact bU.put _ (by omega)
    ·rw [w];exact (fB m (by omega)).jF fun cs D i=>bU.put _ (by omega)
   ·rw [E];(try dsimp only);rw [dN (by simp)];exact (fB m (by omega)).jF fun cs D i=>bU.put _ (by omega)
  | param =>
   simp only [Job.rank] at r
   rw [run,bH];refine iT.dQ (ns:=ns) (fun y E=>?_) (fun E=>?_)
   ·have h1:=h_ y (by simp);rw [E];(try dsimp only);refine iT.need (ns:=ns) (fun u w=>?_) (fun w=>?_)
    ·have h2:=cB u (by simp);rw [w];refine (o .typ (k+2) ns (by omega) (by omega) n (Ids.nil _) (by simp) (by simp only [Job.rank];omega)).thn (fun a f d r1=>?_) (fun as f d i=>?_)
     ·rw [gX (en:=en) h1];exact iT.add _
     ·exact bU.put _ (by omega)
    ·rw [w];exact (uD m (by omega)).jF fun cs D i=>bU.put _ (by omega)
   ·rw [E];(try dsimp only);rw [dN (by simp)];exact (uD m (by omega)).jF fun cs D i=>bU.put _ (by omega)
  | typ =>
   simp only [Job.rank] at r
   have K:RS.dU ⟨k,false,ns⟩=⟨k+1,false,ns⟩:=rfl;rw [run,bH,gu,K];by_cases e:tx l k=[105,110,116]
   ·rw [if_pos e,if_pos e,gX (en:=en) (cB e (by simp))];exact iT.add _
   rw [if_neg e,if_neg e];by_cases e:tx l k=[98,111,111,108]
   ·rw [if_pos e,if_pos e,gX (en:=en) (cB e (by simp))];exact iT.add _
   rw [if_neg e,if_neg e];by_cases e:tx l k=[91]
   ·rw [if_pos e,if_pos e];have h1:=cB e (by simp);refine (o .typ (k+1) ns (by omega) (by omega) n (Ids.nil _) (by simp) (by simp only [Job.rank];omega)).thn (fun a f d r1=>?_) (fun as f d i=>?_)
    ·have g:=dG r1 (by omega) n (Ids.nil _) (by simp);have F:=g.few;have G:=g.le;refine iT.need (ns:=d) (fun y E=>?_) (fun E=>?_)
     ·(try dsimp only);rw [E]
      refine iT.dQ (ns:=d) (fun u w=>?_) (fun w=>?_)
      ·rw [w];try dsimp only;refine iT.need (ns:=d) (fun B N=>?_) (fun N=>?_)
       ·rw [N,gX (en:=en) h1,uY V u];exact iT.add _
       ·rw [N];exact bU.put _ (by omega)
      ·rw [w];(try dsimp only);rw [dN (by simp)];exact bU.put _ (by omega)
     ·(try dsimp only);rw [E,pq (by simp)];try dsimp only;rw [dN (by simp)];exact bU.put _ (by omega)
    ·(try dsimp only);rw [dN (by simp),pq (by simp)];try dsimp only;rw [dN (by simp)];exact bU.put _ (by omega)
   rw [if_neg e,if_neg e];refine iT.dQ (ns:=ns) (fun y E=>?_) (fun E=>?_)
   ·rw [E,gX (en:=en) (h_ y (by simp))];exact iT.add _
   ·rw [E];exact bU.put _ (by omega)
  | list e =>
   simp only [Job.rank] at r
   rw [run,bH];refine (o e.job k ns hk L n (by cases e <;> exact Ids.nil _) (by cases e <;> simp [El.job]) (by rw [El.yF];omega)).thn (fun a f d r1=>?_) (fun as f d i=>?_)
   ·have g:=dG r1 hk n (by cases e <;> exact Ids.nil _) (by cases e <;> simp [El.job]);have A:=g.lo;have F:=g.few;have G:=g.le;rw [El.vw] at A
    exact (o (.gQ e [hd a]) f d g.le (by omega) g.wf (Ids.cons g.hd (Ids.nil _)) (by intro _ _ h;injection h with _ h;rw [← h];simp) (by simp only [Job.rank];omega)).mono (by omega)
   ·(try dsimp only);rw [Dy m e _ (by omega)];exact bU.give _ (by omega)
  | gQ e J =>
   simp only [Job.rank,Job.args] at r hi
   have K:RS.dU ⟨k,false,ns⟩=⟨k+1,false,ns⟩:=rfl;rw [run,bH,gu,K];by_cases u:tx l k=[44]
   ·rw [if_pos u,if_pos u];have h1:=cB u (by simp);refine (o e.job (k+1) ns (by omega) (by omega) n (by cases e <;> exact Ids.nil _) (by cases e <;> simp [El.job]) (by rw [El.yF];omega)).thn (fun a f d r1=>?_) (fun as f d i=>?_)
    ·have g:=dG r1 (by omega) n (by cases e <;> exact Ids.nil _) (by cases e <;> simp [El.job]);have A:=g.lo;have F:=g.few;have G:=g.le;have l1:=g.len;rw [El.vw] at A
     exact (o (.gQ e (J ++ [hd a])) f d g.le (by omega) g.wf ((hi.mono l1).app (Ids.cons g.hd (Ids.nil _))) (by intro _ _ h;injection h with _ h;rw [← h];simp) (by simp only [Job.rank];omega)).mono (by omega)
    ·(try dsimp only);rw [Dy m e _ (by omega)];exact bU.give _ (by omega)
   ·rw [if_neg u,if_neg u];exact iT.give _
end
end Mist
