/-
  A part of the proof.
-/
import Derived.Test.YtajfdjikimiapaaGreatDoorS01
set_option linter.all false
set_option maxRecDepth 100000
namespace Mist
structure Tr where
 nodes:List Nd
 items:List Int
 deriving DecidableEq,Inhabited
def nd (t:Tr)(i:Nat):Nd:=t.nodes.getD i default
def within (n lo hi:Int):Bool:=decide (lo≤n) && decide (n≤hi)
def eZ (k:Nat):Bool:=decide (1≤k) && decide (k≤26) && decide (k ≠ 25)
def gF (k:Nat):Bool:=decide (30≤k) && decide (k≤33)
def dB (k:Nat):Bool:=decide (40≤k) && decide (k≤46)
inductive Pd | expr | typ | param | put | num
 deriving DecidableEq
def Pd.is:Pd→Nat→Bool
 | .expr,k=>eZ k
 | .typ,k=>gF k
 | .param,k=>decide (k=34)
 | .put,k=>decide (k=25)
 | .num,k=>decide (k=1)
structure Part where
 least:Int
 most:Int
 pd:Pd
 deriving DecidableEq
structure Shape where
 named:Bool
 low:Int
 high:Int
 parts:List Part
 deriving DecidableEq
def j6:Int:=-9223372036854775808
def gL:Int:=9223372036854775807
def asked (q:Int):Shape:=⟨false,1,8,if q=7 then [] else if q=8 then [⟨1,801,.expr⟩] else [⟨1,1,.expr⟩]⟩
def shapeOf (k:Nat)(n:Int):Option Shape :=
 if k=1 then some ⟨false,0,9999,[]⟩
 else if k=2 then some ⟨false,0,1,[]⟩
 else if k=3∨k=32∨k=45 then some ⟨true,0,0,[]⟩
 else if k=4∨k=5 then some ⟨false,0,0,[⟨1,1,.expr⟩]⟩
 else if k=19 then some ⟨false,0,0,[⟨3,3,.expr⟩]⟩
 else if k=20 then some ⟨true,0,0,[⟨2,2,.expr⟩]⟩
 else if k=21 then some ⟨true,0,0,[⟨0,801,.expr⟩]⟩
 else if k=22∨k=25∨k=43∨k=44 then some ⟨true,0,0,[⟨1,1,.expr⟩]⟩
 else if k=24 then some ⟨true,0,0,[⟨1,801,.put⟩]⟩
 else if k=26 then some ⟨false,0,0,[⟨1,801,.expr⟩]⟩
 else if k=30∨k=31 then some ⟨false,0,0,[]⟩
 else if k=33 then some ⟨false,j6,gL,[⟨1,1,.typ⟩]⟩
 else if k=34 then some ⟨true,0,0,[⟨1,1,.typ⟩]⟩
 else if k=40 then some ⟨true,0,0,[⟨2,2,.num⟩]⟩
 else if k=41 then some ⟨true,0,0,[⟨1,801,.param⟩]⟩
 else if k=42 then some ⟨true,0,gL,[⟨0,801,.param⟩,⟨1,1,.typ⟩,⟨1,1,.expr⟩]⟩
 else if k=46 then some (asked n)
 else if (6≤k∧k≤18)∨k=23 then some ⟨false,0,0,[⟨2,2,.expr⟩]⟩
 else none
def jQ (ps:List Part):Int:=(ps.map (·.least)).sum
def fits:List Part→List Nat→Bool
 | [],ks=>ks.isEmpty
 | p :: ps,ks =>
  let n:=(ks.length:Int) - jQ ps
  within n p.least p.most && ((ks.take n.toNat).all p.pd.is && fits ps (ks.drop n.toNat))
def kinds (t:Tr)(kids:List Int):List Nat:=kids.map fun c=>(nd t c.toNat).kind
def formed (t:Tr)(i:Nat):Bool :=
 match shapeOf (nd t i).kind (nd t i).n with
 | none=>false
 | some s=>within (nd t i).at_ 0 2000 && (s.named == !(nd t i).text.isEmpty) && (!s.named || isName (nd t i).text) && (nd t i).kids.all (within · 0 ((i:Int) - 1)) &&
  fits s.parts (kinds t (nd t i).kids) && (within (nd t i).n s.low s.high || ((nd t i).kind == 1 && within (nd t i).n (-9999) (-1)))
def large (t:Tr):Bool:=decide (800 < t.nodes.length) || decide (60 < t.items.length)
def walk (t:Tr):Nat→Nat→Bool→Nat→Option Nat
 | 0,_,_,_=>none
 | f+1,i,root,next =>
  match (nd t i).kids.foldl (fun (o:Option Nat) c=>o.bind fun x=>walk t f c.toNat false x) (some next) with
  | none=>none
  | some x=>if i=x then (if dB (nd t i).kind=root then some (x+1) else none) else none
def ordered (t:Tr):Bool :=
 match t.items.foldl (fun (o:Option Nat) (i:Int)=>o.bind fun x=>if within i x ((t.nodes.length:Int) - 1) then walk t (i.toNat+1) i.toNat true x else none) (some 0) with
 | none=>false
 | some x=>x == t.nodes.length
def signed (t:Tr):Bool :=
 (List.range t.nodes.length).all fun i=>!((nd t i).kind == 1 && decide ((nd t i).n < 0)) || t.items.any fun c=>(nd t c.toNat).kind == 40 && (nd t c.toNat).kids.contains (i:Int)
def sized (t:Tr)(n:Nd):Bool :=
 if n.kind=40 then within ((nd t (n.kids.getD 1 0).toNat).n - (nd t (n.kids.getD 0 0).toNat).n+1) 1 12
 else if n.kind=41 then decide (n.kids.length≤6)
 else if n.kind=42 then decide ((n.kids.length:Int) - 2≤4) && decide (n.n≤8)
 else if n.kind=33 then within n.n 1 6
 else if n.kind=26 then decide (n.kids.length≤6)
 else if n.kind=46 then !(n.n == 8) || decide (n.kids.length≤4)
 else true
def jN (k:Nat):Bool:=[3,20,21,22,24,25,32,34,40,41,42,43,44,45].contains k
def jL (n:Nd)(i:Nat)(k:Nat):Bool :=
 if n.kind=24 then decide (k=25)
 else if n.kind=41 then decide (k=34)
 else if n.kind=34∨n.kind=33 then gF k
 else if n.kind=40 then decide (k=1)
 else if n.kind=42 then (if i+1=n.kids.length then eZ k else if i+2=n.kids.length then gF k else decide (k=34))
 else eZ k
def lD (n:Nd):Bool :=
 if [1,2,3,30,31,32,45].contains n.kind then n.kids.length == 0
 else if [4,5,22,25,33,34,43,44].contains n.kind then n.kids.length == 1
 else if n.kind=19 then n.kids.length == 3
 else if n.kind=21 then true
 else if [24,26,41].contains n.kind then decide (1≤n.kids.length)
 else if n.kind=42 then decide (2≤n.kids.length)
 else if n.kind=46 then (if n.n=7 then n.kids.length == 0 else if n.n=8 then decide (1≤n.kids.length) else n.kids.length == 1)
 else n.kids.length == 2
def kG (n:Nd):Bool :=
 if n.kind=1 then within n.n (-9999) 9999
 else if n.kind=2 then within n.n 0 1
 else if n.kind=42 then decide (0≤n.n)
 else if n.kind=33 then true
 else if n.kind=46 then within n.n 1 8
 else n.n == 0
def gV (t:Tr)(i:Nat):Bool :=
 (eZ (nd t i).kind || (nd t i).kind == 25 || gF (nd t i).kind || (nd t i).kind == 34 || dB (nd t i).kind) &&
 (jN (nd t i).kind == isName (nd t i).text) && (jN (nd t i).kind || (nd t i).text.isEmpty) && lD (nd t i) && kG (nd t i) && within (nd t i).at_ 0 2000 &&
 (List.range (nd t i).kids.length).all fun j=>jL (nd t i) j (nd t ((nd t i).kids.getD j 0).toNat).kind && !((nd t ((nd t i).kids.getD j 0).toNat).kind == 1 && decide ((nd t ((nd t i).kids.getD j 0).toNat).n < 0) && !((nd t i).kind == 40))
def jW (out:List Int)(kids:List Int)(at0:Int):Option Int :=
 kids.foldr (fun c (o:Option Int)=>o.bind fun a=>if c ≠ a∨a < 0 then none else some (a - out.getD a.toNat 0)) (some at0)
def kZ (o:Option (List Int))(n:Nd):Option (List Int) :=
 o.bind fun out=>(jW out n.kids ((out.length:Int) - 1)).map fun a=>out ++ [(out.length:Int) - a]
def nW (t:Tr):Option (List Int):=t.nodes.foldl kZ (some [])
def qR (t:Tr)(sz:List Int):Option Int :=
 t.items.foldr (fun c (o:Option Int)=>o.bind fun a=>if a < 0∨c ≠ a∨!dB (nd t a.toNat).kind then none else some (a - sz.getD a.toNat 0)) (some ((t.nodes.length:Int) - 1))
def lg (t:Tr):Bool :=
 match nW t with
 | none=>decide (t.nodes.length=0)
 | some sz=>(List.range t.nodes.length).all (gV t) && (qR t sz == some (-1))
def kg (t:Tr)(n:Nd):Bool :=
 if n.kind=40 then decide ((nd t (n.kids.getD 0 0).toNat).n≤(nd t (n.kids.getD 1 0).toNat).n) && decide ((nd t (n.kids.getD 1 0).toNat).n - (nd t (n.kids.getD 0 0).toNat).n+1≤12)
 else if n.kind=41 then decide (n.kids.length≤6)
 else if n.kind=42 then decide ((n.kids.length:Int) - 2≤4) && decide (n.n≤8)
 else if n.kind=33 then within n.n 1 6
 else if n.kind=26 then decide (n.kids.length≤6)
 else if n.kind=46 then decide (n.kids.length≤4)
 else true
end Mist
namespace Mist
structure RS where
 k:Nat
 bad:Bool
 ns:List Nd
def RS.adv (s:RS):RS:=⟨s.k+1,s.bad,s.ns⟩
def RS.fail (s:RS):RS:=⟨s.k,true,s.ns⟩
def RS.put (n:Nd)(s:RS):List Int × RS:=([(s.ns.length:Int)],⟨s.k,s.bad,s.ns ++ [n]⟩)
def thr:Option (List Int × RS)→(List Int→RS→Option (List Int × RS))→Option (List Int × RS)
 | none,_=>none
 | some (a,s),f=>f a s
section
variable (l:List Tok)
def RS.next (s:RS):Bs:=if s.bad then [] else tx l s.k
def RS.kind (s:RS):Nat:=if s.bad then 0 else (tg l s.k).kind
def RS.place (s:RS):Int:=(tg l s.k).at_
def RS.take (t:Bs)(s:RS):RS:=if s.next l=t then s.adv else s.fail
def RS.word (c:Nat)(s:RS):Bs × RS:=if s.kind l=c then (s.next l,s.adv) else ([],s.fail)
end
def nX (k M:Nat)(q:Option (List Int × RS)):Prop:=∃ as ns,q=some (as,⟨k,true,ns⟩)∧ns.length≤M
section
variable {l:List Tok} {k M M1:Nat} {ns:List Nd}
theorem nX.put (n:Nd)(h:ns.length < M):nX k M (some (RS.put n ⟨k,true,ns⟩)):=⟨_,_,rfl,by simp;omega⟩
theorem nX.give (as:List Int)(h:ns.length≤M):nX k M (some (as,⟨k,true,ns⟩)):=⟨_,_,rfl,h⟩
theorem nX.thr {q:Option (List Int × RS)}{g:List Int→RS→Option (List Int × RS)}(h:nX k M1 q)(a:∀ as ns,ns.length≤M1→nX k M (g as ⟨k,true,ns⟩)):nX k M (Mist.thr q g):=by
 obtain⟨as,ns,rfl,b⟩:=h;exact a as ns b
theorem nX.mono {q:Option (List Int × RS)}(h:nX k M1 q)(b:M1≤M):nX k M q:=by
 obtain⟨as,ns,e,a⟩:=h;exact⟨as,ns,e,by omega⟩
def Gz (M:Nat)(r:Option kF)(q:Option (List Int × RS)):Prop :=
 (∀ as k ns,r=some (.ok as k ns)→q=some (as,⟨k,false,ns⟩))∧∀ k,r=some (.bad k)→nX k M q
theorem Gz.add (n:Nd):Gz M (Mist.add n k ns) (some (RS.put n ⟨k,false,ns⟩)) :=
 ⟨fun as f d e=>(by injection e with e;injection e with a b c;subst a;subst b;subst c;rfl),fun k e=>(by injection e with e;cases e)⟩
theorem Gz.give (as:List Int):Gz M (some (.ok as k ns)) (some (as,⟨k,false,ns⟩)) :=
 ⟨fun as f d e=>(by injection e with e;injection e with a b c;subst a;subst b;subst c;rfl),fun k e=>(by injection e with e;cases e)⟩
theorem Gz.thn {r:Option kF}{q:Option (List Int × RS)}{f:List Int→Nat→List Nd→Option kF}{g:List Int→RS→Option (List Int × RS)}(h:Gz M1 r q)
  (a:∀ as k ns,r=some (.ok as k ns)→Gz M (f as k ns) (g as ⟨k,false,ns⟩)) (b:∀ as k ns,ns.length≤M1→nX k M (g as ⟨k,true,ns⟩)):Gz M (Mist.thn r f) (Mist.thr q g):=by
 cases r with
 | none=>exact⟨fun _ _ _ e=>(by cases e),fun _ e=>(by cases e)⟩
 | some x =>
  cases x with
  | ok as k ns=>rw [h.1 as k ns rfl];exact a as k ns rfl
  | bad k =>
   obtain⟨as,ns,rfl,c⟩:=h.2 k rfl;exact⟨fun _ _ _ e=>(by injection e with e;cases e),fun d e=>by injection e with e;injection e with e;subst e;exact b as k ns c⟩
theorem Gz.need {t:Bs}{f:Option kF}{q:Option (List Int × RS)}(h:tx l k=t→RS.take l t ⟨k,false,ns⟩=⟨k+1,false,ns⟩→Gz M f q)(b:RS.take l t ⟨k,false,ns⟩=⟨k,true,ns⟩→nX k M q):Gz M (Mist.need l t k f) q:=by
 unfold Mist.need;by_cases e:tx l k=t
 ·rw [if_pos e];exact h e (if_pos e)
 ·rw [if_neg e];exact⟨fun _ _ _ e=>(by injection e with e;cases e),fun c a=>by injection a with a;injection a with a;subst a;exact b (if_neg e)⟩
theorem Gz.fZ {c:Nat}{f:Option kF}{q:Option (List Int × RS)}(h:(tg l k).kind=c→RS.word l c ⟨k,false,ns⟩=(tx l k,⟨k+1,false,ns⟩)→Gz M f q)(b:RS.word l c ⟨k,false,ns⟩=([],⟨k,true,ns⟩)→nX k M q) :
  Gz M (Mist.fZ l c k f) q:=by
 unfold Mist.fZ;by_cases e:(tg l k).kind=c
 ·rw [if_pos e];exact h e (if_pos e)
 ·rw [if_neg e];exact⟨fun _ _ _ e=>(by injection e with e;cases e),fun d a=>by injection a with a;injection a with a;subst a;exact b (if_neg e)⟩
theorem Gz.mono {r:Option kF}{q:Option (List Int × RS)}(h:Gz M1 r q)(a:M1≤M):Gz M r q:=⟨h.1,fun k e=>(h.2 k e).mono a⟩
variable {en:Int}
theorem dU {m:Nat}{j:Job}{as:List Int}{d:Nat}{b:List Nd}(e:run l en m j k ns=some (.ok as d b))(f:k≤l.length)(g:Wf ns)(hi:Ids j.args ns.length)(c:∀ e a,j=.lC e a→a ≠ []):Goes l k (k+j.reads) ns as d b :=
 ((Ea m j k ns f g hi c).2 _ e).1 as d b rfl
end
end Mist
namespace Mist
section
variable {l:List Tok} {en:Int}
theorem Dh {k:Nat}{ns:List Nd}(b:k≤l.length)(a:Wf ns):dA True l k (k+1) ns (Dq l en k ns):=by
 unfold Dq;split
 ·rename_i e
  have h1:=dM e (by simp);exact dA.fZ (by simp) (by omega) fun g=>dA.add _ (by omega) (by omega) (by omega) (fT _) a (Ids.nil _)
 ·exact dA.fZ (by simp) b fun g=>dA.add _ (by omega) (by omega) (by omega) (fT _) a (Ids.nil _)
theorem nJ {m:Nat}{j:Job}{k:Nat}{ns:List Nd}(c:k≤l.length)(d:Wf ns)(hi:Ids j.args ns.length)(b:∀ e a,j=.lC e a→a ≠ []):dA (13 * (l.length - k)+j.rank < m) l k (k+j.reads) ns (run l en m j k ns):=Ea m j k ns c d hi b
theorem wW {n k k0:Nat}{ps:List Int}{t u:Int}{a:Nat}{ns ns0:List Nd}(c:a≤l.length)(h0:k+1≤a)(r:ns.length+k0+1≤ns0.length+a)(d:∃ t,ns=ns0 ++ t)(e:Wf ns)(hi:Ids (ps ++ [t]) ns.length) :
  dA (13 * (l.length - a)+12 < n) l k0 (k+1) ns0 (uj l en n k ps t u a ns):=by
 unfold uj;refine dA.need (by simp) c fun g=>?_
 refine (nJ (m:=n) (j:=.expr) (by omega) e (Ids.nil _) (by simp)).thn (fun h=>by simp only [Job.rank];omega) fun b w o q=>?_
 have f:=q.lo;have x:=q.few;have i:=q.len;simp only [Job.reads] at f
 exact dA.add _ (by omega) q.le (by omega) (jM d q.more) q.wf ((hi.mono i).app (Ids.cons q.hd (Ids.nil _)))
theorem wX {n k k0:Nat}{ps:List Int}{a:Nat}{ns ns0:List Nd}(f:a≤l.length)(h0:k+1≤a)(x:ns.length+k0+1≤ns0.length+a)(c:∃ t,ns=ns0 ++ t)(i:Wf ns)(hi:Ids ps ns.length) :
  dA (13 * (l.length - a)+12 < n) l k0 (k+1) ns0 (um l en n k ps a ns):=by
 unfold um;refine dA.need (by simp) f fun g=>dA.need (by simp) (by omega) fun u=>?_
 refine (nJ (m:=n) (j:=.typ) (by omega) i (Ids.nil _) (by simp)).thn (fun h=>by simp only [Job.rank];omega) fun b y r q=>?_
 have o:=q.lo;have A:=q.few;have d:=q.len;simp only [Job.reads] at o
 split
 ·rename_i e
  have h1:=dM e (by simp);split
  ·exact dA.bad (by omega)
  ·refine dA.fZ (by simp) (by omega) fun w=>?_
   exact (wW (by omega) (by omega) (by omega) (jM c q.more) q.wf ((hi.mono d).app (Ids.cons q.hd (Ids.nil _)))).imp (fun h=>by omega)
 ·exact (wW q.le (by omega) (by omega) (jM c q.more) q.wf ((hi.mono d).app (Ids.cons q.hd (Ids.nil _)))).imp (fun h=>by omega)
theorem OC {k:Nat}(h:¬ nD (tx l k)=0):k < l.length:=by
 rcases Nat.lt_or_ge k l.length with h1 | h1
 ·exact h1
 ·exfalso;apply h
  have:tx l k=[]:=by unfold tx;rw [rU l k h1]
  rw [this];rfl
theorem RH {n k:Nat}{ns:List Nd}(x:k≤l.length)(d:Wf ns):dA (13 * (l.length - k)+12 < n) l k (k+1) ns (item l en n k ns):=by
 unfold item;split
 case isFalse=>exact dA.bad x
 rename_i e
 have h1:=lq e (by simp);split
 case h_2=>exact dA.bad x
 rename_i C _
 cases C with
 | choose =>
  unfold iq;refine dA.fZ (by simp) (by omega) fun g=>dA.need (by simp) (by omega) fun i=>?_
  refine (Dh (by omega) d).thn (fun _=>trivial) fun a u o q=>dA.need (by simp) q.le fun A=>?_
  have c:=q.lo;have f:=q.few;refine (Dh (by omega) q.wf).thn (fun _=>trivial) fun b F G r=>?_
  have r1:=r.lo;have r2:=r.few;have l2:=r.len;have E:=q.hd;exact dA.add _ (by omega) r.le (by omega) (jM q.more r.more) r.wf (Ids.cons (by omega) (Ids.cons r.hd (Ids.nil _)))
 | record =>
  unfold iq;refine dA.fZ (by simp) (by omega) fun g=>dA.need (by simp) (by omega) fun i=>dA.need (by simp) (by omega) fun A=>?_
  refine (nJ (m:=n) (j:=.list .param) (by omega) d (Ids.nil _) (by simp)).thn (fun h=>by simp only [Job.rank];omega) fun as u o q=>dA.need (by simp) q.le fun D=>?_
  have c:=q.lo;have f:=q.few;simp only [Job.reads] at c
  exact dA.add _ (by omega) (by omega) (by omega) q.more q.wf q.ids
 | Ny =>
  unfold iq;refine dA.fZ (by simp) (by omega) fun g=>dA.need (by simp) (by omega) fun i=>?_
  split
  ·exact (wX (by omega) (by omega) (by omega) (fT _) d (Ids.nil _)).imp (fun h=>by omega)
  ·refine (nJ (m:=n) (j:=.list .param) (by omega) d (Ids.nil _) (by simp)).thn (fun h=>by simp only [Job.rank];omega) fun as u o q=>?_
   have c:=q.lo;have f:=q.few;simp only [Job.reads] at c
   exact (wX q.le (by omega) (by omega) q.more q.wf q.ids).imp (fun h=>by omega)
 | Oj =>
  unfold iq;refine dA.fZ (by simp) (by omega) fun g=>dA.need (by simp) (by omega) fun i=>?_
  refine (nJ (m:=n) (j:=.expr) (by omega) d (Ids.nil _) (by simp)).thn (fun h=>by simp only [Job.rank];omega) fun b y w q=>?_
  have c:=q.lo;have f:=q.few;simp only [Job.reads] at c
  exact dA.add _ (by omega) q.le (by omega) q.more q.wf (Ids.cons q.hd (Ids.nil _))
 | observe =>
  unfold iq;refine dA.fZ (by simp) (by omega) fun g=>dA.need (by simp) (by omega) fun i=>?_
  refine (nJ (m:=n) (j:=.expr) (by omega) d (Ids.nil _) (by simp)).thn (fun h=>by simp only [Job.rank];omega) fun b y w q=>?_
  have c:=q.lo;have f:=q.few;simp only [Job.reads] at c
  exact dA.add _ (by omega) q.le (by omega) q.more q.wf (Ids.cons q.hd (Ids.nil _))
 | rO =>
  unfold iq;exact dA.fZ (by simp) (by omega) fun g=>dA.add _ (by omega) (by omega) (by omega) (fT _) d (Ids.nil _)
 | ask =>
  show dA _ l k (k+1) ns (PX l en n k ns)
  unfold PX;split
  ·exact dA.bad (by omega)
  ·rename_i B
   have h2:=OC B;split
   ·exact dA.add _ (by omega) (by omega) (by omega) (fT _) d (Ids.nil _)
   ·split
    ·refine (nJ (m:=n) (j:=.list .expr) (by omega) d (Ids.nil _) (by simp)).thn (fun h=>by simp only [Job.rank];omega) fun as u o q=>?_
     have c:=q.lo;have f:=q.few;simp only [Job.reads] at c
     exact dA.add _ (by omega) q.le (by omega) q.more q.wf q.ids
    ·refine (nJ (m:=n) (j:=.expr) (by omega) d (Ids.nil _) (by simp)).thn (fun h=>by simp only [Job.rank];omega) fun b y w q=>?_
     have c:=q.lo;have f:=q.few;simp only [Job.reads] at c
     exact dA.add _ (by omega) q.le (by omega) q.more q.wf (Ids.cons q.hd (Ids.nil _))
theorem SE {n k b:Nat}{ns a:List Nd}{as:List Int}(c:k≤l.length)(d:Wf ns)(e:item l en n k ns=some (.ok as b a)):Goes l k (k+1) ns as b a:=((RH c d).2 _ e).1 as b a rfl
end
section
variable (l:List Tok)
end
section
variable {l:List Tok} {en:Int} {k M:Nat} {ns:List Nd}
theorem Gz.bad {q:Option (List Int × RS)}(h:nX k M q):Gz M (some (.bad k)) q :=
 ⟨fun _ _ _ e=>(by injection e with e;cases e),fun a e=>by injection e with e;injection e with e;subst e;exact h⟩
section
variable (hK:∀ t ∈ l,Mist.kind t.text=t.kind)
include hK
end
end
end Mist
namespace Mist
def Dy (ns:List Nd)(c:Int):Nat × Bool:=((ns.getD c.toNat default).kind,decide ((ns.getD c.toNat default).n < 0))
def agp (n:Nd)(i:Nat)(q:Nat × Bool):Bool:=jL n i q.1 && !(q.1 == 1 && q.2 && !(n.kind == 40))
def abQ (n:Nd):Nat→List (Nat × Bool)→Bool
 | _,[]=>true
 | i,q :: r=>agp n i q && abQ n (i+1) r
def okB (n:Nd)(ki:List (Nat × Bool)):Bool :=
 (eZ n.kind || n.kind == 25 || gF n.kind || n.kind == 34 || dB n.kind) && (jN n.kind == isName n.text) && (jN n.kind || n.text.isEmpty) && lD n && kG n && within n.at_ 0 2000 && abQ n 0 ki
def MZ (ns:List Nd)(n:Nd):Prop:=okB n (n.kids.map (Dy ns))=true
def E8 (ns:List Nd):Prop:=∀ (i:Nat) n,ns[i]? = some n→MZ ns n
inductive Fo (ns:List Nd):Nat→Nat→List Int→Prop
 | nil (a:Nat):Fo ns a a []
 | snoc {a m b:Nat} {as:List Int} {n:Nd} (h:Fo ns a m as) (k:Fo ns m b n.kids) (e:ns[b]? = some n):Fo ns a (b+1) (as ++ [(b:Int)])
theorem Fo.le {ns:List Nd}{a b:Nat}{as:List Int}(h:Fo ns a b as):a≤b:=by
 induction h with
 | nil=>exact aiv _
 | snoc _ _ _ i j=>omega
theorem Fo.mono {ns:List Nd}{a b:Nat}{as:List Int}(h:Fo ns a b as)(t:List Nd):Fo (ns ++ t) a b as:=by
 induction h with
 | nil a=>exact .nil a
 | snoc _ _ e i j=>exact .snoc i j (by rw [List.getElem?_append_left (aiq.1 e).1];exact e)
theorem Fo.append {ns:List Nd}{a m b:Nat}{as c:List Int}(h:Fo ns a m as)(k:Fo ns m b c):Fo ns a b (as ++ c):=by
 induction k with
 | nil=>simpa using h
 | snoc f d e i j=>rw [← List.append_assoc];exact .snoc (i h) d e
theorem Fo.one {ns:List Nd}{a b:Nat}{n:Nd}(h:Fo ns a b n.kids)(e:ns[b]? = some n):Fo ns a (b+1) [(b:Int)]:=.snoc (.nil a) h e
theorem Fo.ids {ns:List Nd}{a b:Nat}{as:List Int}(h:Fo ns a b as):∀ c ∈ as,(a:Int)≤c∧c < (b:Int):=by
 induction h with
 | nil=>intro c d;cases d
 | snoc h k e i j =>
  intro c d;have h1:=h.le;have h2:=k.le;rcases List.mem_append.1 d with d | d
  ·have:=i c d;omega
  ·have:c=_:=List.mem_singleton.1 d
   omega
theorem Oi {ns:List Nd}{c:Int}(t:List Nd)(h0:0≤c)(h:c < (ns.length:Int)):Dy (ns ++ t) c=Dy ns c:=by
 unfold Dy;have h1:c.toNat < ns.length:=by omega
 simp [ait,List.getElem?_append_left h1]
theorem MZ.mono {ns:List Nd}{n:Nd}(h:MZ ns n)(b:Ids n.kids ns.length)(t:List Nd):MZ (ns ++ t) n:=by
 unfold MZ at h ⊢
 rw [← h]
 congr 1
 apply List.map_congr_left
 intro c a;exact Oi t (b c a).1 (b c a).2
theorem E8.add {ns:List Nd}{n:Nd}(h:E8 ns)(e:Wf ns)(d:MZ ns n)(b:Ids n.kids ns.length):E8 (ns ++ [n]):=by
 intro i m hi;rcases Nat.lt_or_ge i ns.length with h1 | h1
 ·rw [List.getElem?_append_left h1] at hi
  refine (h i m hi).mono (fun c a=>?_) _
  have:=e i m hi c a
  omega
 ·rw [List.getElem?_append_right h1] at hi
  have h2:i - ns.length=0:=by
   rcases Nat.eq_zero_or_pos (i - ns.length) with h2 | h2
   ·exact h2
   ·rw [List.getElem?_eq_none (by simp;omega)] at hi;cases hi
  rw [h2] at hi
  have:n=m:=by simpa using hi
  subst this;exact d.mono b _
def pE (q:Nat × Bool):Bool:=eZ q.1 && !(q.1 == 1 && q.2)
def El.p:El→Nat × Bool→Bool
 | .expr=>pE
 | .put=>fun q=>q.1 == 25
 | .param=>fun q=>q.1 == 34
def Job.p:Job→Nat × Bool→Bool
 | .put=>fun q=>q.1 == 25
 | .param=>fun q=>q.1 == 34
 | .typ=>fun q=>gF q.1
 | .list e=>e.p
 | .lC e _=>e.p
 | _=>pE
def Job.many:Job→Bool
 | .list _=>true
 | .lC _ _=>true
 | _=>false
structure Grown (lo:Nat) (ns0:List Nd) (p:Nat × Bool→Bool) (many:Bool) (as:List Int) (ns:List Nd):Prop where
 ok:E8 ns
 wf:Wf ns
 more:∃ t,ns=ns0 ++ t
 fo:Fo ns lo ns.length as
 all:∀ a ∈ as,p (Dy ns a)=true
 ne:as ≠ []
 one:many=false→as=[hd as]
def Seg (lo:Nat)(ns0:List Nd)(p:Nat × Bool→Bool)(many:Bool)(r:Option kF):Prop:=∀ as k ns,r=some (.ok as k ns)→Grown lo ns0 p many as ns
theorem Seg.bad {lo k:Nat}{ns0:List Nd}{p:Nat × Bool→Bool}{many:Bool}:Seg lo ns0 p many (some (.bad k)):=fun as k ns e=>by injection e with e;cases e
theorem Seg.none {lo:Nat}{ns0:List Nd}{p:Nat × Bool→Bool}{many:Bool}:Seg lo ns0 p many none:=fun as k ns e=>by cases e
theorem Seg.add {lo k:Nat}{ns0 ns:List Nd}{p:Nat × Bool→Bool}{many:Bool}(n:Nd)(j:E8 ns)(d:Wf ns)(q:∃ t,ns=ns0 ++ t)(b:Fo ns lo ns.length n.kids)(r:MZ ns n)(u:p (n.kind,decide (n.n < 0))=true):Seg lo ns0 p many (Mist.add n k ns):=by
 intro as x w e;injection e with e
 injection e with f g i
 subst f;subst g;subst i;have hi:Ids n.kids ns.length:=fun c m=>by have:=b.ids c m;omega
 have o:(ns ++ [n])[ns.length]? = some n:=by simp
 refine⟨j.add d r hi,d.add hi,jM q ⟨[n],rfl⟩,?_,fun a h=>?_,by simp,fun _=>rfl⟩
 ·rw [aiA,aiF];exact Fo.one (b.mono _) o
 ·have:a=_:=List.mem_singleton.1 h
  subst this;unfold Dy
  simpa [ait] using u
theorem Seg.give {lo k:Nat}{ns:List Nd}{p:Nat × Bool→Bool}{many:Bool}{as:List Int}(f:E8 ns)(j:Wf ns)(g:Fo ns lo ns.length as)(i:∀ a ∈ as,p (Dy ns a)=true)(h:as ≠ [])(h1:many=false→as=[hd as]):Seg lo ns p many (some (.ok as k ns)):=by
 intro as n m e;injection e with e
 injection e with b c d
 subst b;subst c;subst d;exact⟨f,j,fT _,g,i,h,h1⟩
theorem Seg.need {l:List Tok}{t:Bs}{k lo:Nat}{ns0:List Nd}{p:Nat × Bool→Bool}{many:Bool}{f:Option kF}(h:tx l k=t→Seg lo ns0 p many f):Seg lo ns0 p many (Mist.need l t k f):=by
 unfold Mist.need;split
 ·rename_i e;exact h e
 ·exact Seg.bad
theorem Seg.fZ {l:List Tok}{c k lo:Nat}{ns0:List Nd}{p:Nat × Bool→Bool}{many:Bool}{f:Option kF}(h:(tg l k).kind=c→Seg lo ns0 p many f):Seg lo ns0 p many (Mist.fZ l c k f):=by
 unfold Mist.fZ;split
 ·rename_i e;exact h e
 ·exact Seg.bad
theorem Seg.thn {lo a:Nat}{ns0 b:List Nd}{p p1:Nat × Bool→Bool}{many many1:Bool}{r:Option kF}{f:List Int→Nat→List Nd→Option kF}(h:Seg a b p1 many1 r)(c:∀ as k ns,r=some (.ok as k ns)→Grown a b p1 many1 as ns→Seg lo ns0 p many (f as k ns)):Seg lo ns0 p many (Mist.thn r f):=by
 cases r with
 | none=>exact Seg.none
 | some x =>
  cases x with
  | bad k=>exact Seg.bad
  | ok as k ns=>exact c as k ns rfl (h as k ns rfl)
theorem Seg.on {lo:Nat}{ns0 a:List Nd}{p:Nat × Bool→Bool}{many:Bool}{r:Option kF}(h:Seg lo a p many r)(b:∃ t,a=ns0 ++ t):Seg lo ns0 p many r:=fun as k ns e =>
 let g:=h as k ns e
 ⟨g.ok,g.wf,jM b g.more,g.fo,g.all,g.ne,g.one⟩
theorem Seg.imp {lo:Nat}{ns0:List Nd}{p q:Nat × Bool→Bool}{many:Bool}{r:Option kF}(h:Seg lo ns0 p many r)(c:∀ x,p x=true→q x=true):Seg lo ns0 q many r:=fun as k ns e =>
 let g:=h as k ns e
 ⟨g.ok,g.wf,g.more,g.fo,fun a b=>c _ (g.all a b),g.ne,g.one⟩
structure PW (l:List Tok):Prop where
 kind:∀ t ∈ l,Mist.kind t.text=t.kind
 at_:∀ t ∈ l,0≤t.at_∧t.at_≤2000
section
variable {l:List Tok} {en:Int} (hT:PW l)
include hT
omit hT in
omit hT in
def known (K:Nat):Bool:=eZ K || K == 25 || gF K || K == 34 || dB K
omit hT in
omit hT in
omit hT in
omit hT in
theorem Fo.more {ns c:List Nd}{a b:Nat}{as:List Int}(h:Fo ns a b as)(k:∃ t,c=ns ++ t):Fo c a b as:=by
 obtain⟨t,rfl⟩:=k;exact h.mono t
omit hT in
omit hT in
omit hT in
omit hT in
omit hT in
theorem Fo.nil_eq {ns:List Nd}{a b:Nat}{as:List Int}(h:Fo ns a b as)(e:as=[]):a=b:=by
 cases h with
 | nil=>rfl
 | snoc _ _ _=>simp at e
end
end Mist
namespace Mist
theorem Fo.each {ns:List Nd}{a b:Nat}{as:List Int}(h:Fo ns a b as):∀ i,a≤i→i < b→∃ n m,ns[i]? = some n∧a≤m∧Fo ns m i n.kids:=by
 induction h with
 | nil=>intro i h1 h2;omega
 | @snoc a m b as n h k e i j =>
  intro x h1 h2;rcases Nat.lt_or_ge x m with h3 | h3
  ·exact i x h1 h3
  ·rcases Nat.lt_or_ge x b with h4 | h4
   ·obtain⟨g,f,c,o,d⟩:=j x h3 h4;exact⟨g,f,c,by have:=h.le;omega,d⟩
   ·have:x=b:=by omega
    subst this;exact⟨n,m,e,h.le,k⟩
theorem Fo.inv {ns:List Nd}{a c:Nat}{f:List Int}(h:Fo ns a c f):∀ as x,f=as ++ [x]→∃ m b n,c=b+1∧x=(b:Int)∧Fo ns a m as∧Fo ns m b n.kids∧ns[b]? = some n:=by
 cases h with
 | nil=>intro as x e;simp at e
 | @snoc a m b as' n h k e =>
  intro as x g;obtain⟨rfl,d⟩:=List.append_inj' g rfl;injection d with d
  exact⟨m,b,n,rfl,d.symm,h,k,e⟩
theorem Fo.uniq {ns:List Nd}{a b:Nat}{as:List Int}(h:Fo ns a b as):∀ c,Fo ns c b as→a=c:=by
 induction h with
 | nil a=>intro c f;exact (f.nil_eq rfl).symm
 | @snoc a m b as n h k e i j =>
  intro c f;obtain⟨q,g,w,r,u,h1,o,d⟩:=f.inv as b rfl
  have:g=b:=by omega
  subst this;rw [e] at d
  injection d with d
  subst d
  have:=j q o
  subst this;exact i c h1
theorem Fo.apart {ns:List Nd}{a b:Nat}{as:List Int}(h:Fo ns a b as):∀ i n,a≤i→i < b→ns[i]? = some n→∀ c ∈ n.kids,c ∉ as:=by
 induction h with
 | nil=>intro i n h1 h2;omega
 | @snoc a m b as n h k e ih jh =>
  intro x r h1 h2 f c j g
  have o:c < (x:Int):=by
   obtain⟨u,q,d,h3,f2⟩:=(Fo.snoc h k e).each x h1 h2;rw [f] at d;injection d with d;subst d
   exact (f2.ids c j).2
  rcases List.mem_append.1 g with g | g
  ·have h4:=h.ids c g;rcases Nat.lt_or_ge x m with h3 | h3
   ·exact ih x r h1 h3 f c j g
   ·rcases Nat.lt_or_ge x b with h5 | h5
    ·obtain⟨u,q,d,h6,f2⟩:=k.each x h3 h5;rw [f] at d;injection d with d;subst d
     have:=f2.ids c j
     omega
    ·have:x=b:=by omega
     subst this;rw [e] at f;injection f with f;subst f
     have:=k.ids c j
     omega
  ·have:c=(b:Int):=List.mem_singleton.1 g
   omega
theorem Fo.parent {ns:List Nd}{a b:Nat}{as:List Int}(h:Fo ns a b as):∀ i,a≤i→i < b→(i:Int) ∈ as∨∃ j n,a≤j∧j < b∧ns[j]? = some n∧(i:Int) ∈ n.kids:=by
 induction h with
 | nil=>intro i h1 h2;omega
 | @snoc a m b as n h k e ih jh =>
  intro x h1 h2;have h9:=h.le;have h8:=k.le;rcases Nat.lt_or_ge x m with h3 | h3
  ·rcases ih x h1 h3 with h4 | ⟨j,o,c,f,d,g⟩
   ·exact .inl (List.mem_append_left _ h4)
   ·exact .inr ⟨j,o,c,by omega,d,g⟩
  ·rcases Nat.lt_or_ge x b with h5 | h5
   ·rcases jh x h3 h5 with h4 | ⟨j,o,c,f,d,g⟩
    ·exact .inr ⟨b,n,by omega,by omega,e,h4⟩
    ·exact .inr ⟨j,o,by omega,by omega,d,g⟩
   ·have:x=b:=by omega
    subst this;exact .inl (List.mem_append_right _ (List.mem_singleton.2 rfl))
theorem Fo.Ox {ns:List Nd}{n:Nat}{as:List Int}(h:Fo ns 0 n as){i j:Nat}{x y:Nd}(hi:i < n)(m:j < n)(a:ns[i]? = some x)(g:ns[j]? = some y){c:Int}(b:c ∈ x.kids)(hy:c ∈ y.kids):i=j:=by
 have d:∀ {i j:Nat} {x y:Nd},i < n→j < n→ns[i]? = some x→ns[j]? = some y→c ∈ x.kids→c ∈ y.kids→¬ i < j:=by
  intro i j x y hi m a g b hy o;obtain⟨u,r,e,_,f1⟩:=h.each i (aix _) hi;obtain⟨w,q,f,_,f2⟩:=h.each j (aix _) m;rw [a] at e;injection e with e;subst e
  rw [g] at f;injection f with f;subst f
  have h1:=f1.ids c b;have h2:=f2.ids c hy;rcases Nat.lt_or_ge i q with h3 | h3
  ·omega
  ·exact f2.apart i x h3 o a c b hy
 rcases Nat.lt_trichotomy i j with h1 | h1 | h1
 ·exact absurd h1 (d hi m a g b hy)
 ·exact h1
 ·exact absurd h1 (d m hi g a hy b)
theorem Fo.len {ns:List Nd}{a b:Nat}{as:List Int}(h:Fo ns a b as):as.length+a≤b:=by
 induction h with
 | nil=>simp
 | snoc h k e i j=>have:=k.le;rw [aiA];simp;omega
def mP (q:Nat→Bool)(out:List Int)(l:List Int)(b:Int):Option Int :=
 l.foldr (fun c (o:Option Int)=>o.bind fun a=>if a < 0∨c ≠ a∨(!q a.toNat)=true then none else some (a - out.getD a.toNat 0)) (some b)
theorem Ae (out l:List Int)(b:Int):jW out l b=mP (fun _=>true) out l b:=by
 unfold jW mP
 congr 1
 funext c o
 congr 1
 funext a
 by_cases h1:c=a <;> by_cases h2:a < 0 <;> simp [h1,h2]
theorem rQ (t:Tr)(a:List Int):qR t a=mP (fun i=>dB (nd t i).kind) a t.items ((t.nodes.length:Int) - 1):=rfl
theorem DT (q:Nat→Bool)(out l:List Int)(c b:Int):mP q out (l ++ [c]) b=if b < 0∨c ≠ b∨(!q b.toNat)=true then none else mP q out l (b - out.getD b.toNat 0):=by
 have d:∀ l:List Int,l.foldr (fun c (o:Option Int)=>o.bind fun a=>if a < 0∨c ≠ a∨(!q a.toNat)=true then none else some (a - out.getD a.toNat 0)) none=none:=by
  intro l;induction l with
  | nil=>rfl
  | cons a r e=>rw [List.foldr_cons,e];rfl
 unfold mP;rw [List.foldr_append];simp only [List.foldr_cons,List.foldr_nil,Option.bind_some];split
 ·exact d l
 ·rfl
def Bh (ns:List Nd)(out:List Int)(k:Nat):Prop:=out.length=k∧∀ i,i < k→∃ n m,ns[i]? = some n∧m≤i∧out.getD i 0=(i:Int)+1 - m∧Fo ns m i n.kids
theorem DN {q:Nat→Bool}{ns:List Nd}{out:List Int}{k:Nat}(o:Bh ns out k):∀ (r:List Int) (b a:Int),mP q out r.reverse b=some a→b < (k:Int)→-1≤b→-1≤a∧a≤b∧Fo ns (a+1).toNat (b+1).toNat r.reverse∧∀ c ∈ r,q c.toNat=true
 | [],b,a,h,h1,h2=>by
  have:b=a:=aiB h
  subst this;exact⟨h2,Int.le_refl _,.nil _,fun c d=>nomatch d⟩
 | c :: r,b,a,h,h1,h2=>by
  rw [List.reverse_cons,DT] at h
  split at h
  ·cases h
  ·rename_i d
   have C:0≤b:=by omega
   have f:c=b:=by
    apply Classical.byContradiction;intro e;exact d (.inr (.inl e))
   have E:q b.toNat=true:=by
    cases e:q b.toNat
    ·exact absurd (.inr (.inr (by simp [e]))) d
    ·rfl
   clear d;obtain⟨n,m,e,G,g,D⟩:=o.2 b.toNat (by omega);rw [g] at h
   obtain⟨A,F,j,B⟩:=DN o r _ a h (by omega) (by omega)
   refine⟨A,by omega,?_,?_⟩
   ·rw [List.reverse_cons];have u:(b+1).toNat=b.toNat+1:=by omega
    have w:c=(b.toNat:Int):=by omega
    rw [u,w];refine .snoc (m:=m) ?_ D e;have y:(b - ((b.toNat:Int)+1 - (m:Int))+1).toNat=m:=by omega
    rw [y] at j
    exact j
   ·intro x i;rcases List.mem_cons.1 i with rfl | i
    ·rw [f];exact E
    ·exact B x i
theorem KF {q:Nat→Bool}{ns:List Nd}{out:List Int}{k:Nat}(y:Bh ns out k){a b:Nat}{as:List Int}(h:Fo ns a b as):b≤k→(∀ c ∈ as,q c.toNat=true)→mP q out as ((b:Int) - 1)=some ((a:Int) - 1):=by
 induction h with
 | nil=>intro _ _;rfl
 | @snoc a m b as n h kf e ih jh =>
  intro A i;have h9:=h.le;have h8:=kf.le;rw [DT];have o:((b+1:Nat):Int) - 1=(b:Int):=by omega
  rw [o,aiC];have d:=i (b:Int) (List.mem_append_right _ (List.mem_singleton.2 rfl));rw [aiC] at d
  rw [if_neg (by rintro (h1 | h1 | h1)
                 ·omega
                 ·exact h1 rfl
                 ·rw [d] at h1;cases h1)]
  obtain⟨B,j,f,x,g,w⟩:=y.2 b (by omega);rw [e] at f;injection f with f;subst f
  have:=w.uniq m kf
  subst this;rw [g];have r:(b:Int) - ((b:Int)+1 - (j:Int))=(j:Int) - 1:=by omega
  rw [r];exact ih (by omega) (fun c u=>i c (List.mem_append_left _ u))
theorem Gb {ns:List Nd}{out:List Int}{k:Nat}(a:Bh ns out k){n:Nd}(e:ns[k]? = some n){m:Nat}(h:m≤k)(g:Fo ns m k n.kids):Bh ns (out ++ [(out.length:Int) - ((m:Int) - 1)]) (k+1):=by
 refine⟨by rw [aiA,a.1];rfl,fun i hi=>?_⟩
 rcases Nat.lt_or_ge i k with h1 | h1
 ·obtain⟨o,j,f,c,d,b⟩:=a.2 i h1
  refine⟨o,j,f,c,?_,b⟩
  rw [← d];simp [ait,List.getElem?_append_left (show i < out.length by rw [a.1];exact h1)]
 ·have:i=k:=by omega
  subst this
  refine⟨n,m,e,h,?_,g⟩
  rw [a.1];simp [ait,a.1]
  omega
theorem vS:∀ l:List Nd,l.foldl kZ none=none
 | []=>rfl
 | _ :: r=>vS r
theorem yH {ns:List Nd}:∀ (l2 l1:List Nd) (out c:List Int),ns=l1 ++ l2→Bh ns out l1.length→l2.foldl kZ (some out)=some c→Bh ns c ns.length
 | [],l1,out,c,e,hs,h=>by
  have:out=c:=aiB h
  subst this;rw [e,List.append_nil];rw [e,List.append_nil] at hs;exact hs
 | n :: r,l1,out,c,e,hs,h=>by
  have en:ns[l1.length]? = some n:=by rw [e];simp
  rw [List.foldl_cons] at h
  unfold kZ at h
  rw [Option.bind_some,Ae] at h
  rcases i:mP (fun _=>true) out n.kids ((out.length:Int) - 1) with _ | a
  ·rw [i] at h;rw [Option.map_none] at h
   have:=vS r
   unfold kZ at this
   rw [this] at h;cases h
  ·rw [i] at h
   have d:=i;rw [← List.reverse_reverse n.kids] at d
   obtain⟨o,q,f,_⟩:=DN hs n.kids.reverse _ a d (by rw [hs.1];omega) (by omega);rw [List.reverse_reverse,hs.1] at f
   have j:((l1.length:Int) - 1+1).toNat=l1.length:=by omega
   rw [j] at f
   have m:a=(((a+1).toNat:Nat):Int) - 1:=by omega
   have g:=f.le;have b:=Gb hs en g f;rw [← m] at b
   exact yH r (l1 ++ [n]) _ c (by rw [e];simp) (by rw [aiA];exact b) h
theorem Lg {ns:List Nd}(a:∀ i,i < ns.length→∃ n m,ns[i]? = some n∧Fo ns m i n.kids):∀ (l2 l1:List Nd) (out:List Int),ns=l1 ++ l2→Bh ns out l1.length→∃ h,l2.foldl kZ (some out)=some h
 | [],l1,out,e,hs=>⟨out,rfl⟩
 | n :: r,l1,out,e,hs=>by
  have en:ns[l1.length]? = some n:=by rw [e];simp
  obtain⟨j,m,c,d⟩:=a l1.length (by rw [e];simp);rw [en] at c;injection c with c;subst c
  have g:=KF (q:=fun _=>true) hs d (aiv _) (fun _ _=>rfl);rw [List.foldl_cons]
  have f:kZ (some out) n=some (out ++ [(out.length:Int) - ((m:Int) - 1)]):=by
   unfold kZ;rw [Option.bind_some,Ae,hs.1,g,Option.map_some]
  rw [f];have b:=Gb hs en d.le d;exact Lg a r (l1 ++ [n]) _ (by rw [e];simp) (by rw [aiA];exact b)
theorem yK (ns:List Nd):Bh ns [] 0:=⟨rfl,fun i hi=>by omega⟩
structure Cu (t:Tr):Prop where
 fo:Fo t.nodes 0 t.nodes.length t.items
 item:∀ c ∈ t.items,dB (nd t c.toNat).kind=true
theorem Cu.sizes {t:Tr}(h:Fo t.nodes 0 t.nodes.length t.items):∃ a,nW t=some a∧Bh t.nodes a t.nodes.length:=by
 obtain⟨a,b⟩:=Lg (ns:=t.nodes) (fun i hi=>by obtain⟨n,m,e,_,f⟩:=h.each i (aix _) hi;exact⟨n,m,e,f⟩) t.nodes [] [] rfl (yK _);exact⟨a,b,yH t.nodes [] [] a rfl (yK _) b⟩
theorem uh (t:Tr):lg t=true↔Cu t∧∀ i,i < t.nodes.length→gV t i=true:=by
 constructor
 ·intro h;unfold lg at h
  rcases a:nW t with _ | e
  ·rw [a] at h
   have h0:t.nodes.length=0:=by simpa using h
   have h1:t.nodes=[]:=List.eq_nil_of_length_eq_zero h0;unfold nW at a;rw [h1] at a;cases a
  ·rw [a] at h
   simp only [aiE,beq_iff_eq,aiD,List.mem_range] at h
   obtain⟨h1,h2⟩:=h;have d:Bh t.nodes e t.nodes.length:=yH t.nodes [] [] e rfl (yK _) a;rw [rQ,← List.reverse_reverse t.items] at h2
   obtain⟨_,_,b,j⟩:=DN d t.items.reverse _ _ h2 (by omega) (by omega);rw [List.reverse_reverse] at b
   have g:((t.nodes.length:Int) - 1+1).toNat=t.nodes.length:=by omega
   rw [g] at b
   exact⟨⟨b,fun c m=>j c (List.mem_reverse.2 m)⟩,h1⟩
 ·rintro⟨⟨f,hi⟩,n⟩
  obtain⟨e,a,d⟩:=Cu.sizes f;unfold lg;rw [a];simp only [aiE,beq_iff_eq,aiD,List.mem_range]
  refine⟨n,?_⟩
  rw [rQ,KF d f (aiv _) hi];rfl
end Mist
