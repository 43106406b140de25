/-
  A part of the proof.
-/
import Derived.Test.YtalghggmkojblaaGreatDoorS01
set_option linter.all false
set_option maxRecDepth 100000
namespace Mist
theorem uJ (l:List Tok)(k:Nat)(h:l.length≤k):tg l k=⟨0,[],0⟩:=by simp [tg,h]
structure Nd where
 kind:Nat
 text:Bs
 n:Int
 kids:List Int
 at_:Int
 deriving DecidableEq,Inhabited
inductive j5
 | ok (r:List Int) (k:Nat) (ns:List Nd)
 | bad (k:Nat)
 deriving DecidableEq
def thn:Option j5→(List Int→Nat→List Nd→Option j5)→Option j5
 | none,_=>none
 | some (.bad k),_=>some (.bad k)
 | some (.ok r k ns),f=>f r k ns
def hd (r:List Int):Int:=r.headD 0
def add (n:Nd)(k:Nat)(ns:List Nd):Option j5:=some (.ok [(ns.length:Int)] k (ns ++ [n]))
inductive Lv | or | and | not | cmp | sum | term | unary
 deriving DecidableEq
inductive El | expr | put | param
 deriving DecidableEq
inductive Job
 | expr | lv (v:Lv) | tail (v:Lv) (a:Int) | post | qK (a:Int) | atom
 | put | param | typ | list (e:El) | lI (e:El) (acc:List Int)
 deriving DecidableEq
def El.job:El→Job
 | .expr=>.expr
 | .put=>.put
 | .param=>.param
def Lv.below:Lv→Lv
 | .or=>.and
 | .and=>.not
 | .not=>.cmp
 | .cmp=>.sum
 | .sum=>.term
 | _=>.unary
def mq:Lv→Bs→Nat
 | .or,s=>if s=[111,114] then 18 else 0
 | .and,s=>if s=[97,110,100] then 17 else 0
 | .cmp,s=>if s=[61,61] then 11 else if s=[33,61] then 12 else if s=[60] then 13 else if s=[60,61] then 14 else if s=[62] then 15 else if s=[62,61] then 16 else 0
 | .sum,s=>if s=[43] then 6 else if s=[45] then 7 else 0
 | .term,s=>if s=[42] then 8 else if s=[47] then 9 else if s=[37] then 10 else 0
 | _,_=>0
section
variable (l:List Tok) (en:Int)
def tx (k:Nat):Bs:=(tg l k).text
def pl (k:Nat):Int:=if k < l.length then (tg l k).at_ else en
def need (s:Bs)(k:Nat)(f:Option j5):Option j5:=if tx l k=s then f else some (.bad k)
def eF (c:Nat)(k:Nat)(f:Option j5):Option j5:=if (tg l k).kind=c then f else some (.bad k)
def run:Nat→Job→Nat→List Nd→Option j5
 | 0,_,_,_=>none
 | n+1,.expr,k,ns =>
  if tx l k=[105,102] then
   thn (run n .expr (k+1) ns) fun a k1 dI=>need l [116,104,101,110] k1 <| thn (run n .expr (k1+1) dI) fun b k2 uX=>need l [101,108,115,101] k2 <|
    thn (run n .expr (k2+1) uX) fun c k3 Ze=>add ⟨19,[],0,[hd a,hd b,hd c],pl l en k⟩ k3 Ze
  else if tx l k=[108,101,116] then
   eF l 1 (k+1) <| need l [61] (k+2) <| thn (run n .expr (k+3) ns) fun a k1 dI=>need l [105,110] k1 <|
    thn (run n .expr (k1+1) dI) fun b k2 uX=>add ⟨20,tx l (k+1),0,[hd a,hd b],pl l en k⟩ k2 uX
  else run n (.lv .or) k ns
 | n+1,.lv .not,k,ns =>
  if tx l k=[110,111,116] then thn (run n (.lv .not) (k+1) ns) fun a k1 dI=>add ⟨5,[],0,[hd a],pl l en k⟩ k1 dI
  else run n (.lv .cmp) k ns
 | n+1,.lv .unary,k,ns =>
  if tx l k=[45] then thn (run n (.lv .unary) (k+1) ns) fun a k1 dI=>add ⟨4,[],0,[hd a],pl l en k⟩ k1 dI
  else run n .post k ns
 | n+1,.lv v,k,ns=>thn (run n (.lv v.below) k ns) fun a k1 dI=>run n (.tail v (hd a)) k1 dI
 | n+1,.tail v a,k,ns =>
  if mq v (tx l k)=0 then some (.ok [a] k ns)
  else thn (run n (.lv v.below) (k+1) ns) fun b k1 dI=>thn (add ⟨mq v (tx l k),[],0,[a,hd b],pl l en k⟩ k1 dI) fun c k2 uX =>
   if v=.cmp then some (.ok [hd c] k2 uX) else run n (.tail v (hd c)) k2 uX
 | n+1,.post,k,ns=>thn (run n .atom k ns) fun a k1 dI=>run n (.qK (hd a)) k1 dI
 | n+1,.qK a,k,ns =>
  if tx l k=[46] then
   eF l 1 (k+1) <| thn (add ⟨22,tx l (k+1),0,[a],pl l en k⟩ (k+2) ns) fun c k1 dI=>run n (.qK (hd c)) k1 dI
  else if tx l k=[91] then
   thn (run n .expr (k+1) ns) fun b k1 dI=>need l [93] k1 <| thn (add ⟨23,[],0,[a,hd b],pl l en k⟩ (k1+1) dI) fun c k2 uX=>run n (.qK (hd c)) k2 uX
  else some (.ok [a] k ns)
 | n+1,.atom,k,ns =>
  if (tg l k).kind=2 then add ⟨1,[],numOf (tx l k),[],pl l en k⟩ (k+1) ns
  else if tx l k=[116,114,117,101] then add ⟨2,[],1,[],pl l en k⟩ (k+1) ns
  else if tx l k=[102,97,108,115,101] then add ⟨2,[],0,[],pl l en k⟩ (k+1) ns
  else if tx l k=[40] then thn (run n .expr (k+1) ns) fun a k1 dI=>need l [41] k1 <| some (.ok [hd a] (k1+1) dI)
  else if tx l k=[91] then thn (run n (.list .expr) (k+1) ns) fun as k1 dI=>need l [93] k1 <| add ⟨26,[],0,as,pl l en k⟩ (k1+1) dI
  else eF l 1 k <|
   if tx l (k+1)=[40] then
    if tx l (k+2)=[41] then add ⟨21,tx l k,0,[],pl l en k⟩ (k+3) ns
    else thn (run n (.list .expr) (k+2) ns) fun as k1 dI=>need l [41] k1 <| add ⟨21,tx l k,0,as,pl l en k⟩ (k1+1) dI
   else if tx l (k+1)=[123] then
    thn (run n (.list .put) (k+2) ns) fun as k1 dI=>need l [125] k1 <| add ⟨24,tx l k,0,as,pl l en k⟩ (k1+1) dI
   else add ⟨3,tx l k,0,[],pl l en k⟩ (k+1) ns
 | n+1,.put,k,ns=>eF l 1 k <| need l [58] (k+1) <| thn (run n .expr (k+2) ns) fun a k1 dI=>add ⟨25,tx l k,0,[hd a],pl l en k⟩ k1 dI
 | n+1,.param,k,ns=>eF l 1 k <| need l [58] (k+1) <| thn (run n .typ (k+2) ns) fun a k1 dI=>add ⟨34,tx l k,0,[hd a],pl l en k⟩ k1 dI
 | n+1,.typ,k,ns =>
  if tx l k=[105,110,116] then add ⟨30,[],0,[],pl l en k⟩ (k+1) ns
  else if tx l k=[98,111,111,108] then add ⟨31,[],0,[],pl l en k⟩ (k+1) ns
  else if tx l k=[91] then
   thn (run n .typ (k+1) ns) fun a k1 dI=>need l [59] k1 <| eF l 2 (k1+1) <| need l [93] (k1+2) <| add ⟨33,[],numOf (tx l (k1+1)),[hd a],pl l en k⟩ (k1+3) dI
  else eF l 1 k <| add ⟨32,tx l k,0,[],pl l en k⟩ (k+1) ns
 | n+1,.list e,k,ns=>thn (run n e.job k ns) fun a k1 dI=>run n (.lI e [hd a]) k1 dI
 | n+1,.lI e acc,k,ns =>
  if tx l k=[44] then thn (run n e.job (k+1) ns) fun a k1 dI=>run n (.lI e (acc ++ [hd a])) k1 dI
  else some (.ok acc k ns)
def Gh (k:Nat)(ns:List Nd):Option j5 :=
 if tx l k=[45] then eF l 2 (k+1) <| add ⟨1,[],-(numOf (tx l (k+1)):Int),[],pl l en k⟩ (k+2) ns
 else eF l 2 k <| add ⟨1,[],numOf (tx l k),[],pl l en k⟩ (k+1) ns
def oI (s:Bs):Nat :=
 if s=[109,117,115,116] then 1 else if s=[109,97,121] then 2 else if s=[99,111,117,110,116] then 3 else if s=[98,111,117,110,100,115] then 4 else if s=[118,97,108,117,101,115] then 5 else if s=[119,104,121] then 6 else if s=[98,108,97,109,101] then 7 else if s=[108,111,111,107] then 8 else 0
def wG (n k:Nat)(ps:List Int)(t u:Int)(k3:Nat)(ns:List Nd):Option j5 :=
 need l [61] k3 <| thn (run l en n .expr (k3+1) ns) fun b k4 ns4=>add ⟨42,tx l (k+1),u,ps ++ [t] ++ [hd b],pl l en k⟩ k4 ns4
def wH (n k:Nat)(ps:List Int)(k1:Nat)(dI:List Nd):Option j5 :=
 need l [41] k1 <| need l [58] (k1+1) <| thn (run l en n .typ (k1+2) dI) fun t k2 uX =>
  if tx l k2=[117,112,116,111] then
   if tx l (k2+1)=[48] then some (.bad (k2+1))
   else eF l 2 (k2+1) <| wG l en n k ps (hd t) (numOf (tx l (k2+1))) (k2+2) uX
  else wG l en n k ps (hd t) 0 k2 uX
def UM (n k:Nat)(ns:List Nd):Option j5 :=
 if oI (tx l (k+1))=0 then some (.bad (k+1))
 else if oI (tx l (k+1))=7 then add ⟨46,[],7,[],pl l en k⟩ (k+2) ns
 else if oI (tx l (k+1))=8 then thn (run l en n (.list .expr) (k+2) ns) fun as k1 dI=>add ⟨46,[],8,as,pl l en k⟩ k1 dI
 else thn (run l en n .expr (k+2) ns) fun a k1 dI=>add ⟨46,[],(oI (tx l (k+1)):Nat),[hd a],pl l en k⟩ k1 dI
inductive It | choose | record | Sb | Lg | observe | uG | ask
 deriving DecidableEq
def Xu (s:Bs):Option It :=
 if s=[99,104,111,111,115,101] then some .choose else if s=[116,121,112,101] then some .record else if s=[102,117,110] then some .Sb else if s=[108,101,116] then some .Lg else if s=[111,98,115,101,114,118,101] then some .observe else if s=[114,101,116,114,97,99,116] then some .uG else if s=[97,115,107] then some .ask else none
def jg (n:Nat):It→Nat→List Nd→Option j5
 | .choose,k,ns=>eF l 1 (k+1) <| need l [58] (k+2) <| thn (Gh l en (k+3) ns) fun a k1 dI=>need l [46,46] k1 <| thn (Gh l en (k1+1) dI) fun b k2 uX=>add ⟨40,tx l (k+1),0,[hd a,hd b],pl l en k⟩ k2 uX
 | .record,k,ns=>eF l 1 (k+1) <| need l [61] (k+2) <| need l [123] (k+3) <| thn (run l en n (.list .param) (k+4) ns) fun as k1 dI=>need l [125] k1 <| add ⟨41,tx l (k+1),0,as,pl l en k⟩ (k1+1) dI
 | .Sb,k,ns=>eF l 1 (k+1) <| need l [40] (k+2) <|
   if tx l (k+3)=[41] then wH l en n k [] (k+3) ns else thn (run l en n (.list .param) (k+3) ns) fun ps k1 dI=>wH l en n k ps k1 dI
 | .Lg,k,ns=>eF l 1 (k+1) <| need l [61] (k+2) <| thn (run l en n .expr (k+3) ns) fun a k1 dI=>add ⟨43,tx l (k+1),0,[hd a],pl l en k⟩ k1 dI
 | .observe,k,ns=>eF l 1 (k+1) <| need l [58] (k+2) <| thn (run l en n .expr (k+3) ns) fun a k1 dI=>add ⟨44,tx l (k+1),0,[hd a],pl l en k⟩ k1 dI
 | .uG,k,ns=>eF l 1 (k+1) <| add ⟨45,tx l (k+1),0,[],pl l en k⟩ (k+2) ns
 | .ask,k,ns=>UM l en n k ns
def item (n k:Nat)(ns:List Nd):Option j5 :=
 if (tg l k).kind=3 then
  match Xu (tx l k) with
  | some i=>jg l en n i k ns
  | none=>some (.bad k)
 else some (.bad k)
def prog (n:Nat):Nat→Nat→List Nd→List Int→Option j5
 | 0,_,_,_=>none
 | m+1,k,ns,its =>
  if k < l.length then thn (item l en n k ns) fun a k1 dI=>need l [59] k1 <| prog n m (k1+1) dI (its ++ [hd a])
  else some (.ok its k ns)
end
def Job.rank:Job→Nat
 | .list _=>12
 | .expr=>11
 | .put=>11
 | .param=>11
 | .lv .or=>10
 | .lv .and=>9
 | .lv .not=>8
 | .lv .cmp=>7
 | .lv .sum=>6
 | .lv .term=>5
 | .lv .unary=>4
 | .post=>3
 | .atom=>2
 | .typ=>2
 | .tail _ _=>1
 | .qK _=>1
 | .lI _ _=>1
def Job.reads:Job→Nat
 | .tail _ _=>0
 | .qK _=>0
 | .lI _ _=>0
 | _=>1
def Wf (ns:List Nd):Prop:=∀ (i:Nat) nd,ns[i]? = some nd→∀ c ∈ nd.kids,0≤c∧c < (i:Int)
def Ids (as:List Int)(n:Nat):Prop:=∀ a ∈ as,0≤a∧a < (n:Int)
structure Goes (l:List Tok) (k0 lo:Nat) (ns0:List Nd) (as:List Int) (k:Nat) (ns:List Nd):Prop where
 lo:lo≤k
 le:k≤l.length
 few:ns.length+k0≤ns0.length+k
 more:∃ t,ns=ns0 ++ t
 wf:Wf ns
 ids:Ids as ns.length
 ne:as ≠ []
def dH (tot:Prop)(l:List Tok)(k0 lo:Nat)(ns0:List Nd)(r:Option j5):Prop :=
 (tot→∃ x,r=some x)∧∀ x,r=some x→(∀ as k ns,x=.ok as k ns→Goes l k0 lo ns0 as k ns)∧∀ k,x=.bad k→k≤l.length
section
variable {l:List Tok} {en:Int}
theorem dR {k:Nat}{s:Bs}(h:tx l k=s)(a:s ≠ []):k < l.length:=by
 rcases Nat.lt_or_ge k l.length with h1 | h1
 ·exact h1
 ·exfalso
  apply a
  rw [← h];unfold tx;rw [uJ l k h1]
theorem mH {k c:Nat}(h:(tg l k).kind=c)(a:c ≠ 0):k < l.length:=by
 rcases Nat.lt_or_ge k l.length with h1 | h1
 ·exact h1
 ·exfalso
  apply a
  rw [← h,uJ l k h1]
theorem Wf.add {ns:List Nd}(h:Wf ns){n:Nd}(b:Ids n.kids ns.length):Wf (ns ++ [n]):=by
 intro i nd hi c a;rcases Nat.lt_or_ge i ns.length with h1 | h1
 ·rw [List.getElem?_append_left h1] at hi;exact h i nd hi c a
 ·rw [List.getElem?_append_right h1] at hi
  have h2:i - ns.length=0:=by
   rcases Nat.eq_zero_or_pos (i - ns.length) with h2 | h2
   ·exact h2
   ·rw [List.getElem?_eq_none (by simp;omega)] at hi;cases hi
  rw [h2] at hi
  have:n=nd:=by simpa using hi
  subst this
  have:=b c a
  omega
theorem Ids.nil (n:Nat):Ids [] n:=fun _ h=>by cases h
theorem Ids.cons {a:Int}{as:List Int}{n:Nat}(h:0≤a∧a < (n:Int))(k:Ids as n):Ids (a :: as) n:=fun b c=>by
 rcases List.mem_cons.1 c with rfl | c
 ·exact h
 ·exact k b c
theorem Ids.mono {as:List Int}{n m:Nat}(h:Ids as n)(c:n≤m):Ids as m:=fun a b=>by have:=h a b;omega
theorem Ids.app {as b:List Int}{n:Nat}(h:Ids as n)(k:Ids b n):Ids (as ++ b) n:=fun a c=>by
 rcases List.mem_append.1 c with h1 | h1
 ·exact h a h1
 ·exact k a h1
theorem Goes.hd {k0 lo k:Nat}{ns0 ns:List Nd}{as:List Int}(g:Goes l k0 lo ns0 as k ns):0≤hd as∧hd as < (ns.length:Int):=by
 cases as with
 | nil=>exact absurd rfl g.ne
 | cons a r=>exact g.ids a (List.mem_cons_self ..)
theorem Goes.len {k0 lo k:Nat}{ns0 ns:List Nd}{as:List Int}(g:Goes l k0 lo ns0 as k ns):ns0.length≤ns.length:=by
 obtain⟨t,rfl⟩:=g.more;simp
theorem dH.add {tot:Prop}{k0 lo k:Nat}{ns0 ns:List Nd}(n:Nd)(h:lo≤k)(f:k≤l.length)(q:ns.length+k0 < ns0.length+k)(g:∃ t,ns=ns0 ++ t)(j:Wf ns)(hi:Ids n.kids ns.length):dH tot l k0 lo ns0 (Mist.add n k ns) :=
 ⟨fun _=>⟨_,rfl⟩,fun x a=>by
  injection a with a
  subst a
  exact⟨fun as r m e=>by
   injection e with b c d
   subst b;subst c;subst d;obtain⟨t,i⟩:=g;exact⟨h,f,by simp;omega,⟨t ++ [n],by rw [i,List.append_assoc]⟩,j.add hi,Ids.cons ⟨by omega,by simp;omega⟩ (Ids.nil _),by simp⟩,fun k e=>by cases e⟩⟩
theorem dH.give {tot:Prop}{k0 lo k:Nat}{ns0 ns:List Nd}{as:List Int}(h:lo≤k)(g:k≤l.length)(f:ns.length+k0≤ns0.length+k)(i:∃ t,ns=ns0 ++ t)(m:Wf ns)(hi:Ids as ns.length)(j:as ≠ []):dH tot l k0 lo ns0 (some (.ok as k ns)) :=
 ⟨fun _=>⟨_,rfl⟩,fun x a=>by
  injection a with a
  subst a
  exact⟨fun as q n e=>by
   injection e with b c d
   subst b;subst c;subst d;exact⟨h,g,f,i,m,hi,j⟩,fun k e=>by cases e⟩⟩
theorem dH.bad {tot:Prop}{k0 lo k:Nat}{ns0:List Nd}(d:k≤l.length):dH tot l k0 lo ns0 (some (.bad k)) :=
 ⟨fun _=>⟨_,rfl⟩,fun x a=>by
  injection a with a
  subst a;exact⟨fun as b c e=>(by cases e),fun b e=>by injection e with e;omega⟩⟩
theorem dH.need {tot:Prop}{k0 lo k:Nat}{ns0:List Nd}{s:Bs}{f:Option j5}(b:s ≠ [])(a:k≤l.length)(h:k < l.length→dH tot l k0 lo ns0 f):dH tot l k0 lo ns0 (Mist.need l s k f):=by
 unfold Mist.need;split
 ·rename_i e;exact h (dR e b)
 ·exact dH.bad a
theorem dH.eF {tot:Prop}{k0 lo k c:Nat}{ns0:List Nd}{f:Option j5}(a:c ≠ 0)(b:k≤l.length)(h:k < l.length→dH tot l k0 lo ns0 f):dH tot l k0 lo ns0 (Mist.eF l c k f):=by
 unfold Mist.eF;split
 ·rename_i e;exact h (mH e a)
 ·exact dH.bad b
theorem dH.thn {tot c:Prop}{k0 lo e b:Nat}{ns0 d:List Nd}{r:Option j5}{f:List Int→Nat→List Nd→Option j5}(h:dH c l e b d r)(j:tot→c)(i:∀ as k ns,Goes l e b d as k ns→dH tot l k0 lo ns0 (f as k ns)):dH tot l k0 lo ns0 (Mist.thn r f):=by
 cases r with
 | none =>
  refine⟨fun q=>?_,fun x a=>by cases a⟩
  obtain⟨x,a⟩:=h.1 (j q);cases a
 | some y =>
  obtain⟨a,g⟩:=h.2 y rfl
  cases y with
  | bad k=>exact dH.bad (g k rfl)
  | ok as k ns=>exact i as k ns (a _ _ _ rfl)
theorem dH.on {tot f:Prop}{k0 lo i a:Nat}{ns0 b:List Nd}{r:Option j5}(h:dH f l i a b r)(c:tot→f)(m:lo≤a)(w:b.length+k0≤ns0.length+i)(n:∃ t,b=ns0 ++ t):dH tot l k0 lo ns0 r:=by
 refine⟨fun q=>h.1 (c q),fun x d=>?_⟩
 obtain⟨d,j⟩:=h.2 x d
 refine⟨fun as k ns e=>?_,j⟩
 have g:=d as k ns e;obtain⟨t,c⟩:=n;obtain⟨u,v⟩:=g.more;exact⟨Nat.le_trans m g.lo,g.le,by have:=g.few;omega,⟨t ++ u,by rw [v,c,List.append_assoc]⟩,g.wf,g.ids,g.ne⟩
theorem dH.imp {tot a:Prop}{k0 lo:Nat}{ns0:List Nd}{r:Option j5}(h:dH a l k0 lo ns0 r)(b:tot→a):dH tot l k0 lo ns0 r:=⟨fun q=>h.1 (b q),h.2⟩
theorem kL {a b c:List Nd}(h:∃ t,b=a ++ t)(k:∃ t,c=b ++ t):∃ t,c=a ++ t:=by
 obtain⟨t,rfl⟩:=h;obtain⟨u,rfl⟩:=k;exact⟨t ++ u,by rw [List.append_assoc]⟩
theorem gX (a:List Nd):∃ t,a=a ++ t:=⟨[],by simp⟩
theorem El.OI (e:El):e.job.rank=11:=by cases e <;> rfl
theorem El.JE (e:El):e.job.reads=1:=by cases e <;> rfl
theorem Vu {v:Lv}{k:Nat}(h:¬ mq v (tx l k)=0):k < l.length∧(v=.or∨v=.and∨v=.cmp∨v=.sum∨v=.term):=by
 constructor
 ·rcases Nat.lt_or_ge k l.length with h1 | h1
  ·exact h1
  ·exfalso
   apply h
   have:tx l k=[]:=by unfold tx;rw [uJ l k h1]
   rw [this]
   cases v <;> rfl
 ·cases v <;> simp [mq] at h ⊢
def Job.args:Job→List Int
 | .tail _ a=>[a]
 | .qK a=>[a]
 | .lI _ acc=>acc
 | _=>[]
theorem Hw:∀ (m:Nat) (j:Job) (k:Nat) (ns:List Nd),k≤l.length→Wf ns→Ids j.args ns.length→(∀ e w,j=.lI e w→w ≠ [])→dH (13 * (l.length - k)+j.rank < m) l k (k+j.reads) ns (run l en m j k ns)
 | 0,_,_,_,_,_,_,_=>⟨fun h=>by omega,fun x K=>by rw [run] at K;cases K⟩
 | m+1,j,k,ns,hk,f,hi,A=>by
  have i:=fun j k ns h1 f hi A=>Hw m j k ns h1 f hi A
  cases j with
  | expr =>
   simp only [Job.reads];rw [run];split
   ·rename_i e
    have h1:=dR e (by simp);refine (i .expr (k+1) ns (by omega) f (Ids.nil _) (by simp)).thn (fun h=>by simp only [Job.rank] at h ⊢;omega) fun a n t g=>dH.need (by simp) g.le fun B=>?_
    have d:=g.lo;have u:=g.few;simp only [Job.reads] at d
    refine (i .expr (n+1) t (by omega) g.wf (Ids.nil _) (by simp)).thn (fun h=>by simp only [Job.rank] at h ⊢;omega) fun b C E q=>dH.need (by simp) q.le fun T=>?_
    have D:=q.lo;have y:=q.few;simp only [Job.reads] at D
    refine (i .expr (C+1) E (by omega) q.wf (Ids.nil _) (by simp)).thn (fun h=>by simp only [Job.rank] at h ⊢;omega) fun c U R r=>?_
    have r1:=r.lo;have r2:=r.few;simp only [Job.reads] at r1
    have I:=g.hd;have J:=q.hd;have N:=r.hd;have l1:=q.len;have V:=r.len;exact dH.add _ (by omega) r.le (by omega) (kL g.more (kL q.more r.more)) r.wf (Ids.cons (by omega) (Ids.cons (by omega) (Ids.cons N (Ids.nil _))))
   ·split
    ·rename_i e
     have h1:=dR e (by simp);refine dH.eF (by simp) (by omega) fun d=>dH.need (by simp) (by omega) fun u=>?_
     refine (i .expr (k+3) ns (by omega) f (Ids.nil _) (by simp)).thn (fun h=>by simp only [Job.rank] at h ⊢;omega) fun a n t g=>dH.need (by simp) g.le fun L=>?_
     have d:=g.lo;have u:=g.few;simp only [Job.reads] at d
     refine (i .expr (n+1) t (by omega) g.wf (Ids.nil _) (by simp)).thn (fun h=>by simp only [Job.rank] at h ⊢;omega) fun b C E q=>?_
     have D:=q.lo;have y:=q.few;simp only [Job.reads] at D
     have I:=g.hd;have J:=q.hd;have l1:=q.len;exact dH.add _ (by omega) q.le (by omega) (kL g.more q.more) q.wf (Ids.cons (by omega) (Ids.cons J (Ids.nil _)))
    ·exact (i (.lv .or) k ns hk f (Ids.nil _) (by simp)).imp (fun h=>by simp only [Job.rank] at h ⊢;omega)
  | lv v =>
   have F:∀ v,(v=.or∨v=.and∨v=.cmp∨v=.sum∨v=.term)→dH (13 * (l.length - k)+(Job.lv v).rank < m+1) l k (k+1) ns (Mist.thn (run l en m (.lv v.below) k ns) fun a n t=>run l en m (.tail v (hd a)) n t):=by
    intro v hv;have Q:3≤(Job.lv v).rank:=by cases v <;> decide
    have P:(Job.lv v.below).rank+1=(Job.lv v).rank:=by
     rcases hv with rfl | rfl | rfl | rfl | rfl <;> rfl
    refine (i (.lv v.below) k ns hk f (Ids.nil _) (by simp)).thn (fun h=>by omega) fun a n t g=>?_
    have d:=g.lo;have u:=g.few;simp only [Job.reads] at d
    exact (i (.tail v (hd a)) n t g.le g.wf (Ids.cons g.hd (Ids.nil _)) (by simp)).on (fun h=>by show 13 * (l.length - n)+1 < m;omega) (by simp only [Job.reads];omega) u g.more
   cases v with
   | not =>
    simp only [Job.reads];rw [run];split
    ·rename_i e
     have h1:=dR e (by simp);refine (i (.lv .not) (k+1) ns (by omega) f (Ids.nil _) (by simp)).thn (fun h=>by simp only [Job.rank] at h ⊢;omega) fun a n t g=>?_
     have d:=g.lo;have u:=g.few;simp only [Job.reads] at d
     exact dH.add _ (by omega) g.le (by omega) g.more g.wf (Ids.cons g.hd (Ids.nil _))
    ·exact (i (.lv .cmp) k ns hk f (Ids.nil _) (by simp)).imp (fun h=>by simp only [Job.rank] at h ⊢;omega)
   | unary =>
    simp only [Job.reads];rw [run];split
    ·rename_i e
     have h1:=dR e (by simp);refine (i (.lv .unary) (k+1) ns (by omega) f (Ids.nil _) (by simp)).thn (fun h=>by simp only [Job.rank] at h ⊢;omega) fun a n t g=>?_
     have d:=g.lo;have u:=g.few;simp only [Job.reads] at d
     exact dH.add _ (by omega) g.le (by omega) g.more g.wf (Ids.cons g.hd (Ids.nil _))
    ·exact (i .post k ns hk f (Ids.nil _) (by simp)).imp (fun h=>by simp only [Job.rank] at h ⊢;omega)
   | or=>rw [run] <;> first | exact F _ (by simp) | simp
   | and=>rw [run] <;> first | exact F _ (by simp) | simp
   | cmp=>rw [run] <;> first | exact F _ (by simp) | simp
   | sum=>rw [run] <;> first | exact F _ (by simp) | simp
   | term=>rw [run] <;> first | exact F _ (by simp) | simp
  | tail v a =>
   simp only [Job.reads,Job.args] at hi ⊢
   rw [run];split
   ·exact dH.give (amL _) hk (amL _) (gX _) f hi (by simp)
   ·rename_i e
    obtain⟨h1,hv⟩:=Vu e;have P:(Job.lv v.below).rank≤9:=by rcases hv with rfl | rfl | rfl | rfl | rfl <;> decide
    refine (i (.lv v.below) (k+1) ns (by omega) f (Ids.nil _) (by simp)).thn (fun h=>by have h:13 * (l.length - k)+1 < m+1:=h;omega) fun b n t g=>?_
    have d:=g.lo;have u:=g.few;have l1:=g.len;simp only [Job.reads] at d
    have I:=hi a (List.mem_cons_self ..);refine (dH.add (tot:=True) (k0:=k) (lo:=n) (ns0:=ns) ⟨mq v (tx l k),[],0,[a,hd b],pl l en k⟩ (amL _) g.le (by omega) g.more g.wf (Ids.cons (by omega) (Ids.cons g.hd (Ids.nil _)))).thn (fun _=>trivial) fun c C E q=>?_
    have D:=q.lo;have y:=q.few;split
    ·exact dH.give (by omega) q.le y q.more q.wf (Ids.cons q.hd (Ids.nil _)) (by simp)
    ·exact (i (.tail v (hd c)) C E q.le q.wf (Ids.cons q.hd (Ids.nil _)) (by simp)).on (fun h=>by simp only [Job.rank] at h ⊢;omega) (by simp only [Job.reads];omega) y q.more
  | post =>
   simp only [Job.reads];rw [run];refine (i .atom k ns hk f (Ids.nil _) (by simp)).thn (fun h=>by simp only [Job.rank] at h ⊢;omega) fun a n t g=>?_
   have d:=g.lo;have u:=g.few;simp only [Job.reads] at d
   exact (i (.qK (hd a)) n t g.le g.wf (Ids.cons g.hd (Ids.nil _)) (by simp)).on (fun h=>by simp only [Job.rank] at h ⊢;omega) (by simp only [Job.reads];omega) u g.more
  | qK a =>
   simp only [Job.reads,Job.args] at hi ⊢
   rw [run];have I:=hi a (List.mem_cons_self ..);split
   ·rename_i e
    have h1:=dR e (by simp);refine dH.eF (by simp) (by omega) fun d=>?_
    refine (dH.add (tot:=True) (k0:=k) (lo:=k+2) (ns0:=ns) ⟨22,tx l (k+1),0,[a],pl l en k⟩ (amL _) (by omega) (by omega) (gX _) f hi).thn (fun _=>trivial) fun c n t q=>?_
    have D:=q.lo;have y:=q.few;exact (i (.qK (hd c)) n t q.le q.wf (Ids.cons q.hd (Ids.nil _)) (by simp)).on (fun h=>by simp only [Job.rank] at h ⊢;omega) (by simp only [Job.reads];omega) y q.more
   ·split
    ·rename_i e
     have h1:=dR e (by simp);refine (i .expr (k+1) ns (by omega) f (Ids.nil _) (by simp)).thn (fun h=>by simp only [Job.rank] at h ⊢;omega) fun b n t g=>dH.need (by simp) g.le fun B=>?_
     have d:=g.lo;have u:=g.few;have l1:=g.len;simp only [Job.reads] at d
     refine (dH.add (tot:=True) (k0:=k) (lo:=n+1) (ns0:=ns) ⟨23,[],0,[a,hd b],pl l en k⟩ (amL _) (by omega) (by omega) g.more g.wf (Ids.cons (by omega) (Ids.cons g.hd (Ids.nil _)))).thn (fun _=>trivial) fun c C E q=>?_
     have D:=q.lo;have y:=q.few;exact (i (.qK (hd c)) C E q.le q.wf (Ids.cons q.hd (Ids.nil _)) (by simp)).on (fun h=>by simp only [Job.rank] at h ⊢;omega) (by simp only [Job.reads];omega) y q.more
    ·exact dH.give (amL _) hk (amL _) (gX _) f hi (by simp)
  | atom =>
   simp only [Job.reads];rw [run];split
   ·rename_i e;have h1:=mH e (by simp);exact dH.add _ (amL _) (by omega) (by omega) (gX _) f (Ids.nil _)
   split
   ·rename_i e;have h1:=dR e (by simp);exact dH.add _ (amL _) (by omega) (by omega) (gX _) f (Ids.nil _)
   split
   ·rename_i e;have h1:=dR e (by simp);exact dH.add _ (amL _) (by omega) (by omega) (gX _) f (Ids.nil _)
   split
   ·rename_i e
    have h1:=dR e (by simp);refine (i .expr (k+1) ns (by omega) f (Ids.nil _) (by simp)).thn (fun h=>by simp only [Job.rank] at h ⊢;omega) fun a n t g=>dH.need (by simp) g.le fun B=>?_
    have d:=g.lo;have u:=g.few;simp only [Job.reads] at d
    exact dH.give (by omega) (by omega) (by omega) g.more g.wf (Ids.cons g.hd (Ids.nil _)) (by simp)
   split
   ·rename_i e
    have h1:=dR e (by simp);refine (i (.list .expr) (k+1) ns (by omega) f (Ids.nil _) (by simp)).thn (fun h=>by simp only [Job.rank] at h ⊢;omega) fun a n t g=>dH.need (by simp) g.le fun B=>?_
    have d:=g.lo;have u:=g.few;simp only [Job.reads] at d
    exact dH.add _ (by omega) (by omega) (by omega) g.more g.wf g.ids
   refine dH.eF (by simp) hk fun H=>?_
   split
   ·rename_i e
    have h1:=dR e (by simp);split
    ·rename_i G
     have h2:=dR G (by simp);exact dH.add _ (by omega) (by omega) (by omega) (gX _) f (Ids.nil _)
    ·refine (i (.list .expr) (k+2) ns (by omega) f (Ids.nil _) (by simp)).thn (fun h=>by simp only [Job.rank] at h ⊢;omega) fun a n t g=>dH.need (by simp) g.le fun B=>?_
     have d:=g.lo;have u:=g.few;simp only [Job.reads] at d
     exact dH.add _ (by omega) (by omega) (by omega) g.more g.wf g.ids
   split
   ·rename_i e
    have h1:=dR e (by simp);refine (i (.list .put) (k+2) ns (by omega) f (Ids.nil _) (by simp)).thn (fun h=>by simp only [Job.rank] at h ⊢;omega) fun a n t g=>dH.need (by simp) g.le fun B=>?_
    have d:=g.lo;have u:=g.few;simp only [Job.reads] at d
    exact dH.add _ (by omega) (by omega) (by omega) g.more g.wf g.ids
   ·exact dH.add _ (amL _) (by omega) (by omega) (gX _) f (Ids.nil _)
  | put =>
   simp only [Job.reads];rw [run];refine dH.eF (by simp) hk fun H=>dH.need (by simp) (by omega) fun d=>?_
   refine (i .expr (k+2) ns (by omega) f (Ids.nil _) (by simp)).thn (fun h=>by simp only [Job.rank] at h ⊢;omega) fun a n t g=>?_
   have d:=g.lo;have u:=g.few;simp only [Job.reads] at d
   exact dH.add _ (by omega) g.le (by omega) g.more g.wf (Ids.cons g.hd (Ids.nil _))
  | param =>
   simp only [Job.reads];rw [run];refine dH.eF (by simp) hk fun H=>dH.need (by simp) (by omega) fun d=>?_
   refine (i .typ (k+2) ns (by omega) f (Ids.nil _) (by simp)).thn (fun h=>by simp only [Job.rank] at h ⊢;omega) fun a n t g=>?_
   have d:=g.lo;have u:=g.few;simp only [Job.reads] at d
   exact dH.add _ (by omega) g.le (by omega) g.more g.wf (Ids.cons g.hd (Ids.nil _))
  | typ =>
   simp only [Job.reads];rw [run];split
   ·rename_i e;have h1:=dR e (by simp);exact dH.add _ (amL _) (by omega) (by omega) (gX _) f (Ids.nil _)
   split
   ·rename_i e;have h1:=dR e (by simp);exact dH.add _ (amL _) (by omega) (by omega) (gX _) f (Ids.nil _)
   split
   ·rename_i e
    have h1:=dR e (by simp);refine (i .typ (k+1) ns (by omega) f (Ids.nil _) (by simp)).thn (fun h=>by simp only [Job.rank] at h ⊢;omega) fun a n t g=>dH.need (by simp) g.le fun B=>dH.eF (by simp) (by omega) fun S=>dH.need (by simp) (by omega) fun L=>?_
    have d:=g.lo;have u:=g.few;simp only [Job.reads] at d
    exact dH.add _ (by omega) (by omega) (by omega) g.more g.wf (Ids.cons g.hd (Ids.nil _))
   ·exact dH.eF (by simp) hk fun H=>dH.add _ (amL _) (by omega) (by omega) (gX _) f (Ids.nil _)
  | list e =>
   simp only [Job.reads];rw [run];refine (i e.job k ns hk f (by cases e <;> exact Ids.nil _) (by cases e <;> simp [El.job])).thn (fun h=>by rw [El.OI];simp only [Job.rank] at h;omega) fun a n t g=>?_
   have d:=g.lo;have u:=g.few;rw [El.JE] at d
   exact (i (.lI e [hd a]) n t g.le g.wf (Ids.cons g.hd (Ids.nil _)) (by intro _ _ h;injection h with _ h;rw [← h];simp)).on (fun h=>by simp only [Job.rank] at h ⊢;omega) (by simp only [Job.reads];omega) u g.more
  | lI e w =>
   simp only [Job.reads,Job.args] at hi ⊢
   rw [run];split
   ·rename_i G
    have h1:=dR G (by simp);refine (i e.job (k+1) ns (by omega) f (by cases e <;> exact Ids.nil _) (by cases e <;> simp [El.job])).thn (fun h=>by rw [El.OI];simp only [Job.rank] at h;omega) fun a n t g=>?_
    have d:=g.lo;have u:=g.few;have l1:=g.len;rw [El.JE] at d
    exact (i (.lI e (w ++ [hd a])) n t g.le g.wf ((hi.mono l1).app (Ids.cons g.hd (Ids.nil _))) (by intro _ _ h;injection h with _ h;rw [← h];simp)).on (fun h=>by simp only [Job.rank] at h ⊢;omega) (by simp only [Job.reads];omega) (by omega) g.more
   ·exact dH.give (amL _) hk (amL _) (gX _) f hi (A e w rfl)
end
end Mist
namespace Mist
structure Tr where
 nodes:List Nd
 items:List Int
 deriving DecidableEq,Inhabited
def nd (t:Tr)(i:Nat):Nd:=t.nodes.getD i default
def within (n lo hi:Int):Bool:=decide (lo≤n) && decide (n≤hi)
def iT (k:Nat):Bool:=decide (1≤k) && decide (k≤26) && decide (k ≠ 25)
def kg (k:Nat):Bool:=decide (30≤k) && decide (k≤33)
def fM (k:Nat):Bool:=decide (40≤k) && decide (k≤46)
inductive Pd | expr | typ | param | put | num
 deriving DecidableEq
def Pd.is:Pd→Nat→Bool
 | .expr,k=>iT k
 | .typ,k=>kg k
 | .param,k=>decide (k=34)
 | .put,k=>decide (k=25)
 | .num,k=>decide (k=1)
structure Part where
 least:Int
 most:Int
 pd:Pd
 deriving DecidableEq
structure Shape where
 named:Bool
 low:Int
 high:Int
 parts:List Part
 deriving DecidableEq
def pY:Int:=-9223372036854775808
def kV:Int:=9223372036854775807
def asked (q:Int):Shape:=⟨false,1,8,if q=7 then [] else if q=8 then [⟨1,801,.expr⟩] else [⟨1,1,.expr⟩]⟩
def shapeOf (k:Nat)(n:Int):Option Shape :=
 if k=1 then some ⟨false,0,9999,[]⟩
 else if k=2 then some ⟨false,0,1,[]⟩
 else if k=3∨k=32∨k=45 then some ⟨true,0,0,[]⟩
 else if k=4∨k=5 then some ⟨false,0,0,[⟨1,1,.expr⟩]⟩
 else if k=19 then some ⟨false,0,0,[⟨3,3,.expr⟩]⟩
 else if k=20 then some ⟨true,0,0,[⟨2,2,.expr⟩]⟩
 else if k=21 then some ⟨true,0,0,[⟨0,801,.expr⟩]⟩
 else if k=22∨k=25∨k=43∨k=44 then some ⟨true,0,0,[⟨1,1,.expr⟩]⟩
 else if k=24 then some ⟨true,0,0,[⟨1,801,.put⟩]⟩
 else if k=26 then some ⟨false,0,0,[⟨1,801,.expr⟩]⟩
 else if k=30∨k=31 then some ⟨false,0,0,[]⟩
 else if k=33 then some ⟨false,pY,kV,[⟨1,1,.typ⟩]⟩
 else if k=34 then some ⟨true,0,0,[⟨1,1,.typ⟩]⟩
 else if k=40 then some ⟨true,0,0,[⟨2,2,.num⟩]⟩
 else if k=41 then some ⟨true,0,0,[⟨1,801,.param⟩]⟩
 else if k=42 then some ⟨true,0,kV,[⟨0,801,.param⟩,⟨1,1,.typ⟩,⟨1,1,.expr⟩]⟩
 else if k=46 then some (asked n)
 else if (6≤k∧k≤18)∨k=23 then some ⟨false,0,0,[⟨2,2,.expr⟩]⟩
 else none
def kP (ps:List Part):Int:=(ps.map (·.least)).sum
def fits:List Part→List Nat→Bool
 | [],ks=>ks.isEmpty
 | p :: ps,ks =>
  let n:=(ks.length:Int) - kP ps
  within n p.least p.most && ((ks.take n.toNat).all p.pd.is && fits ps (ks.drop n.toNat))
def kinds (t:Tr)(kids:List Int):List Nat:=kids.map fun c=>(nd t c.toNat).kind
def formed (t:Tr)(i:Nat):Bool :=
 match shapeOf (nd t i).kind (nd t i).n with
 | none=>false
 | some s=>within (nd t i).at_ 0 2000 && (s.named == !(nd t i).text.isEmpty) && (!s.named || isName (nd t i).text) && (nd t i).kids.all (within · 0 ((i:Int) - 1)) &&
  fits s.parts (kinds t (nd t i).kids) && (within (nd t i).n s.low s.high || ((nd t i).kind == 1 && within (nd t i).n (-9999) (-1)))
def large (t:Tr):Bool:=decide (800 < t.nodes.length) || decide (60 < t.items.length)
def walk (t:Tr):Nat→Nat→Bool→Nat→Option Nat
 | 0,_,_,_=>none
 | f+1,i,root,next =>
  match (nd t i).kids.foldl (fun (o:Option Nat) c=>o.bind fun x=>walk t f c.toNat false x) (some next) with
  | none=>none
  | some x=>if i=x then (if fM (nd t i).kind=root then some (x+1) else none) else none
def ordered (t:Tr):Bool :=
 match t.items.foldl (fun (o:Option Nat) (i:Int)=>o.bind fun x=>if within i x ((t.nodes.length:Int) - 1) then walk t (i.toNat+1) i.toNat true x else none) (some 0) with
 | none=>false
 | some x=>x == t.nodes.length
def signed (t:Tr):Bool :=
 (List.range t.nodes.length).all fun i=>!((nd t i).kind == 1 && decide ((nd t i).n < 0)) || t.items.any fun c=>(nd t c.toNat).kind == 40 && (nd t c.toNat).kids.contains (i:Int)
def sized (t:Tr)(n:Nd):Bool :=
 if n.kind=40 then within ((nd t (n.kids.getD 1 0).toNat).n - (nd t (n.kids.getD 0 0).toNat).n+1) 1 12
 else if n.kind=41 then decide (n.kids.length≤6)
 else if n.kind=42 then decide ((n.kids.length:Int) - 2≤4) && decide (n.n≤8)
 else if n.kind=33 then within n.n 1 6
 else if n.kind=26 then decide (n.kids.length≤6)
 else if n.kind=46 then !(n.n == 8) || decide (n.kids.length≤4)
 else true
def iM (k:Nat):Bool:=[3,20,21,22,24,25,32,34,40,41,42,43,44,45].contains k
def ku (n:Nd)(i:Nat)(k:Nat):Bool :=
 if n.kind=24 then decide (k=25)
 else if n.kind=41 then decide (k=34)
 else if n.kind=34∨n.kind=33 then kg k
 else if n.kind=40 then decide (k=1)
 else if n.kind=42 then (if i+1=n.kids.length then iT k else if i+2=n.kids.length then kg k else decide (k=34))
 else iT k
def kH (n:Nd):Bool :=
 if [1,2,3,30,31,32,45].contains n.kind then n.kids.length == 0
 else if [4,5,22,25,33,34,43,44].contains n.kind then n.kids.length == 1
 else if n.kind=19 then n.kids.length == 3
 else if n.kind=21 then true
 else if [24,26,41].contains n.kind then decide (1≤n.kids.length)
 else if n.kind=42 then decide (2≤n.kids.length)
 else if n.kind=46 then (if n.n=7 then n.kids.length == 0 else if n.n=8 then decide (1≤n.kids.length) else n.kids.length == 1)
 else n.kids.length == 2
def gL (n:Nd):Bool :=
 if n.kind=1 then within n.n (-9999) 9999
 else if n.kind=2 then within n.n 0 1
 else if n.kind=42 then decide (0≤n.n)
 else if n.kind=33 then true
 else if n.kind=46 then within n.n 1 8
 else n.n == 0
def qO (t:Tr)(i:Nat):Bool :=
 (iT (nd t i).kind || (nd t i).kind == 25 || kg (nd t i).kind || (nd t i).kind == 34 || fM (nd t i).kind) &&
 (iM (nd t i).kind == isName (nd t i).text) && (iM (nd t i).kind || (nd t i).text.isEmpty) && kH (nd t i) && gL (nd t i) && within (nd t i).at_ 0 2000 &&
 (List.range (nd t i).kids.length).all fun j=>ku (nd t i) j (nd t ((nd t i).kids.getD j 0).toNat).kind && !((nd t ((nd t i).kids.getD j 0).toNat).kind == 1 && decide ((nd t ((nd t i).kids.getD j 0).toNat).n < 0) && !((nd t i).kind == 40))
def FN (out:List Int)(kids:List Int)(at0:Int):Option Int :=
 kids.foldr (fun c (o:Option Int)=>o.bind fun a=>if c ≠ a∨a < 0 then none else some (a - out.getD a.toNat 0)) (some at0)
def nD (o:Option (List Int))(n:Nd):Option (List Int) :=
 o.bind fun out=>(FN out n.kids ((out.length:Int) - 1)).map fun a=>out ++ [(out.length:Int) - a]
def Ma (t:Tr):Option (List Int):=t.nodes.foldl nD (some [])
def J9 (t:Tr)(sz:List Int):Option Int :=
 t.items.foldr (fun c (o:Option Int)=>o.bind fun a=>if a < 0∨c ≠ a∨!fM (nd t a.toNat).kind then none else some (a - sz.getD a.toNat 0)) (some ((t.nodes.length:Int) - 1))
def N_ (t:Tr):Bool :=
 match Ma t with
 | none=>decide (t.nodes.length=0)
 | some sz=>(List.range t.nodes.length).all (qO t) && (J9 t sz == some (-1))
def TY (t:Tr)(n:Nd):Bool :=
 if n.kind=40 then decide ((nd t (n.kids.getD 0 0).toNat).n≤(nd t (n.kids.getD 1 0).toNat).n) && decide ((nd t (n.kids.getD 1 0).toNat).n - (nd t (n.kids.getD 0 0).toNat).n+1≤12)
 else if n.kind=41 then decide (n.kids.length≤6)
 else if n.kind=42 then decide ((n.kids.length:Int) - 2≤4) && decide (n.n≤8)
 else if n.kind=33 then within n.n 1 6
 else if n.kind=26 then decide (n.kids.length≤6)
 else if n.kind=46 then decide (n.kids.length≤4)
 else true
end Mist
namespace Mist
structure RS where
 k:Nat
 bad:Bool
 ns:List Nd
def RS.adv (s:RS):RS:=⟨s.k+1,s.bad,s.ns⟩
def RS.fail (s:RS):RS:=⟨s.k,true,s.ns⟩
def RS.put (n:Nd)(s:RS):List Int × RS:=([(s.ns.length:Int)],⟨s.k,s.bad,s.ns ++ [n]⟩)
def thr:Option (List Int × RS)→(List Int→RS→Option (List Int × RS))→Option (List Int × RS)
 | none,_=>none
 | some (a,s),f=>f a s
section
variable (l:List Tok)
def RS.next (s:RS):Bs:=if s.bad then [] else tx l s.k
def RS.kind (s:RS):Nat:=if s.bad then 0 else (tg l s.k).kind
def RS.place (s:RS):Int:=(tg l s.k).at_
def RS.take (t:Bs)(s:RS):RS:=if s.next l=t then s.adv else s.fail
def RS.word (c:Nat)(s:RS):Bs × RS:=if s.kind l=c then (s.next l,s.adv) else ([],s.fail)
end
def pJ (k M:Nat)(q:Option (List Int × RS)):Prop:=∃ as ns,q=some (as,⟨k,true,ns⟩)∧ns.length≤M
section
variable {l:List Tok} {k M M1:Nat} {ns:List Nd}
theorem pJ.put (n:Nd)(h:ns.length < M):pJ k M (some (RS.put n ⟨k,true,ns⟩)):=⟨_,_,rfl,by simp;omega⟩
theorem pJ.give (as:List Int)(h:ns.length≤M):pJ k M (some (as,⟨k,true,ns⟩)):=⟨_,_,rfl,h⟩
theorem pJ.thr {q:Option (List Int × RS)}{g:List Int→RS→Option (List Int × RS)}(h:pJ k M1 q)(a:∀ as ns,ns.length≤M1→pJ k M (g as ⟨k,true,ns⟩)):pJ k M (Mist.thr q g):=by
 obtain⟨as,ns,rfl,b⟩:=h;exact a as ns b
theorem pJ.mono {q:Option (List Int × RS)}(h:pJ k M1 q)(b:M1≤M):pJ k M q:=by
 obtain⟨as,ns,e,a⟩:=h;exact⟨as,ns,e,by omega⟩
def KN (M:Nat)(r:Option j5)(q:Option (List Int × RS)):Prop :=
 (∀ as k ns,r=some (.ok as k ns)→q=some (as,⟨k,false,ns⟩))∧∀ k,r=some (.bad k)→pJ k M q
theorem KN.add (n:Nd):KN M (Mist.add n k ns) (some (RS.put n ⟨k,false,ns⟩)) :=
 ⟨fun as f d e=>(by injection e with e;injection e with a b c;subst a;subst b;subst c;rfl),fun k e=>(by injection e with e;cases e)⟩
theorem KN.give (as:List Int):KN M (some (.ok as k ns)) (some (as,⟨k,false,ns⟩)) :=
 ⟨fun as f d e=>(by injection e with e;injection e with a b c;subst a;subst b;subst c;rfl),fun k e=>(by injection e with e;cases e)⟩
theorem KN.thn {r:Option j5}{q:Option (List Int × RS)}{f:List Int→Nat→List Nd→Option j5}{g:List Int→RS→Option (List Int × RS)}(h:KN M1 r q)
  (a:∀ as k ns,r=some (.ok as k ns)→KN M (f as k ns) (g as ⟨k,false,ns⟩)) (b:∀ as k ns,ns.length≤M1→pJ k M (g as ⟨k,true,ns⟩)):KN M (Mist.thn r f) (Mist.thr q g):=by
 cases r with
 | none=>exact⟨fun _ _ _ e=>(by cases e),fun _ e=>(by cases e)⟩
 | some x =>
  cases x with
  | ok as k ns=>rw [h.1 as k ns rfl];exact a as k ns rfl
  | bad k =>
   obtain⟨as,ns,rfl,c⟩:=h.2 k rfl;exact⟨fun _ _ _ e=>(by injection e with e;cases e),fun d e=>by injection e with e;injection e with e;subst e;exact b as k ns c⟩
theorem KN.need {t:Bs}{f:Option j5}{q:Option (List Int × RS)}(h:tx l k=t→RS.take l t ⟨k,false,ns⟩=⟨k+1,false,ns⟩→KN M f q)(b:RS.take l t ⟨k,false,ns⟩=⟨k,true,ns⟩→pJ k M q):KN M (Mist.need l t k f) q:=by
 unfold Mist.need;by_cases e:tx l k=t
 ·rw [if_pos e];exact h e (if_pos e)
 ·rw [if_neg e];exact⟨fun _ _ _ e=>(by injection e with e;cases e),fun c a=>by injection a with a;injection a with a;subst a;exact b (if_neg e)⟩
theorem KN.eF {c:Nat}{f:Option j5}{q:Option (List Int × RS)}(h:(tg l k).kind=c→RS.word l c ⟨k,false,ns⟩=(tx l k,⟨k+1,false,ns⟩)→KN M f q)(b:RS.word l c ⟨k,false,ns⟩=([],⟨k,true,ns⟩)→pJ k M q) :
  KN M (Mist.eF l c k f) q:=by
 unfold Mist.eF;by_cases e:(tg l k).kind=c
 ·rw [if_pos e];exact h e (if_pos e)
 ·rw [if_neg e];exact⟨fun _ _ _ e=>(by injection e with e;cases e),fun d a=>by injection a with a;injection a with a;subst a;exact b (if_neg e)⟩
theorem KN.mono {r:Option j5}{q:Option (List Int × RS)}(h:KN M1 r q)(a:M1≤M):KN M r q:=⟨h.1,fun k e=>(h.2 k e).mono a⟩
variable {en:Int}
theorem eG {m:Nat}{j:Job}{as:List Int}{d:Nat}{b:List Nd}(e:run l en m j k ns=some (.ok as d b))(f:k≤l.length)(g:Wf ns)(hi:Ids j.args ns.length)(c:∀ e a,j=.lI e a→a ≠ []):Goes l k (k+j.reads) ns as d b :=
 ((Hw m j k ns f g hi c).2 _ e).1 as d b rfl
end
end Mist
