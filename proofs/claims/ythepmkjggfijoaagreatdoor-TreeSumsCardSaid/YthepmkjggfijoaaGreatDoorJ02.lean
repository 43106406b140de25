/-
  A part of the proof.
-/
import Derived.Test.YthepmkjggfijoaaGreatDoorSA
import Derived.Lib.AtoiTie
import Derived.Lib.ItoaNum
import Derived.Test.YthepmkjggfijoaaGreatDoorJ01
set_option linter.all false
set_option maxRecDepth 100000
namespace Mist
section
variable (s:Bs) (h0:¬ s.length=0)
include h0
end
end Mist
namespace Mist
end Mist
namespace Mist
end Mist
namespace Mist
theorem Ct (s:Bs)(h:kind s ≠ 0):s.length≤12∧0 < s.length:=by
 have hk:(first s).2=s∧(first s).1 ≠ 0:=by
  unfold kind at h
  split at h
  ·exact⟨by assumption,h⟩
  ·exact absurd rfl h
 obtain⟨h1,h2⟩:=hk;have hp:=kr s h2;rw [h1] at hp
 refine⟨?_,hp.1⟩
 by_cases h0:s.length=0
 ·omega
 by_cases hs:dP (gt s 0)=true
 ·by_cases hk:hasB keywords (s.take (aV dI s))=true
  ·rw [jI s h0 hs hk] at h1
   simp only at h1
   rw [h1] at hk
   have:∀ g ∈ keywords,g.length≤12:=by decide
   exact this s (by simpa [hasB] using hk)
  ·by_cases hn:aV dI s≤12
   ·rw [iD s h0 hs hk hn] at h1
    simp only at h1
    have:=congrArg List.length h1
    simp at this
    omega
   ·rw [jE s h0 hs hk hn] at h2;exact absurd rfl h2
 ·by_cases hd:aQ (gt s 0)=true
  ·by_cases hn:g_ (s.take (aV aQ s))=true
   ·rw [iJ s h0 hs hd hn] at h1
    simp only at h1
    rw [h1] at hn
    simp [g_] at hn
    omega
   ·rw [jm s h0 hs hd hn] at h2;exact absurd rfl h2
  ·cases hg:jL s with
   | none=>rw [iM s h0 hs hd hg] at h2;exact absurd rfl h2
   | some g =>
    rw [iN s h0 hs hd g hg] at h1
    simp only at h1
    rw [h1] at hg
    have:∀ g ∈ signs,g.length≤12:=by decide
    exact this s (List.mem_of_find?_eq_some hg)
end Mist
namespace Mist
open Go
end Mist
namespace Mist
end Mist
namespace Mist
end Mist
namespace Mist
def aN:List (Bs × Nat × Bs)→Bs
 | []=>[]
 | (g,_,t) :: r=>g ++ (t ++ aN r)
theorem lQ (p:UInt8→Bool)(t r:Bs)(h:t.all p=true)(hr:r=[]∨∃ c r',r=c :: r'∧p c=false):aV p (t ++ r)=t.length:=by
 have ht:∀ b ∈ t,p b=true:=by simpa using h
 unfold aV;rw [List.takeWhile_append_of_pos ht];rcases hr with rfl | ⟨c,r',rfl,hc⟩
 ·simp
 ·rw [List.takeWhile_cons_of_neg (by simp [hc])];simp
theorem Er:∀ g ∈ signs,g.length≤2:=by decide
theorem Ei (g:Bs)(x y:UInt8)(r:Bs)(h:g.length≤2):mO g (x :: y :: r)=mO g [x,y]:=by
 unfold mO
 match g,h with
 | [],_=>rfl
 | [a],_=>simp [List.isPrefixOf]
 | [a,b],_=>simp [List.isPrefixOf]
theorem find_congr {p q:Bs→Bool}:∀ (l:List Bs),(∀ g ∈ l,p g=q g)→l.find? p=l.find? q
 | [],_=>rfl
 | g :: l,h=>by
  rw [List.find?_cons,List.find?_cons,h g (by simp),find_congr l (fun x hx=>h x (by simp [hx]))]
theorem Az (x y:UInt8)(r:Bs):jL (x :: y :: r)=jL [x,y]:=by
 unfold jL;exact find_congr signs fun g hg=>Ei g x y r (Er g hg)
theorem oo (x y:UInt8)(r:Bs)(hs:dP x=false)(hd:aQ x=false):first (x :: y :: r)=first [x,y]:=by
 have h1:¬ dP (gt (x :: y :: r) 0)=true:=by show ¬ dP x=true;simp [hs]
 have h2:¬ aQ (gt (x :: y :: r) 0)=true:=by show ¬ aQ x=true;simp [hd]
 have h3:¬ dP (gt [x,y] 0)=true:=by show ¬ dP x=true;simp [hs]
 have h4:¬ aQ (gt [x,y] 0)=true:=by show ¬ aQ x=true;simp [hd]
 have e:=Az x y r
 cases hg:jL [x,y] with
 | none=>rw [iM _ (by simp) h1 h2 (e.trans hg),iM _ (by simp) h3 h4 hg]
 | some g=>rw [iN _ (by simp) h1 h2 g (e.trans hg),iN _ (by simp) h3 h4 g hg]
theorem qZ (a b:List (Bs × Nat × Bs)):aN (a ++ b)=aN a ++ aN b:=by
 induction a with
 | nil=>rfl
 | cons x r ih=>obtain⟨g,k,t⟩:=x;simp [aN,ih]
end Mist
namespace Mist
end Mist
namespace Mist
section
variable {l:List Tok} {en:Int} (hT:rF l)
include hT
omit hT in
theorem z_:isName []=false:=by decide
omit hT in
theorem jT {ns:List Nd}{n:Nd}{p:Nat × Bool→Bool}(h:∀ i q,p q=true→ru n i q=true):∀ (L:List Int) i,(∀ a ∈ L,p (dB ns a)=true)→oJ n i (L.map (dB ns))=true
 | [],_,_=>rfl
 | a :: r,i,ha=>by
  rw [List.map_cons,oJ,h i _ (ha a (List.mem_cons_self ..)),jT h r (i+1) (fun b hb=>ha b (List.mem_cons_of_mem _ hb))];rfl
omit hT in
theorem bq {K:Nat}(hK:ig K=false):(ig K == isName [])=true∧(ig K || ([]:Bs).isEmpty)=true:=by
 rw [z_,hK];exact⟨rfl,rfl⟩
omit hT in
omit hT in
theorem Ij {K:Nat}(h:6≤K∧K≤18):(K ≠ 24∧K ≠ 41∧K ≠ 34∧K ≠ 33∧K ≠ 40∧K ≠ 42)∧known K=true∧ig K=false∧(∀ a b:Int,jC ⟨K,[],0,[a,b],0⟩=true)∧(∀ as,gu ⟨K,[],0,as,0⟩=true)∧pE (K,decide ((0:Int) < 0))=true:=by
 have:K=6∨K=7∨K=8∨K=9∨K=10∨K=11∨K=12∨K=13∨K=14∨K=15∨K=16∨K=17∨K=18:=by omega
 rcases this with rfl | rfl | rfl | rfl | rfl | rfl | rfl | rfl | rfl | rfl | rfl | rfl | rfl <;> exact⟨by decide,by decide,by decide,fun _ _=>rfl,fun _=>rfl,by decide⟩
omit hT in
theorem jc {ns ns':List Nd}{a b:Nat}{as:List Int}{p:Nat × Bool→Bool}(h:Fo ns a b as)(hb:b≤ns.length)(hp:∀ c ∈ as,p (dB ns c)=true)(k:∃ t,ns'=ns ++ t):∀ c ∈ as,p (dB ns' c)=true:=by
 obtain⟨t,rfl⟩:=k;intro c hc
 have:=h.ids c hc
 rw [Aa t (by omega) (by omega)];exact hp c hc
omit hT in
omit hT in
omit hT in
end
end Mist
namespace Mist
end Mist
namespace Mist
end Mist
namespace Mist
def pI (q:Nat × Bool):Bool:=eP q.1
theorem Jb {q:Nat × Bool}(h:iH q.1=true):(q.1 == 1)=false:=by
 unfold iH at h;simp at h ⊢;omega
theorem vg {n:Nd}(hk:n.kind=42):∀ (qs:List (Nat × Bool)) (i:Nat) (q1 q2:Nat × Bool),i+qs.length+2=n.kids.length→(∀ q ∈ qs,(q.1 == 34)=true)→iH q1.1=true→pE q2=true→oJ n i (qs ++ [q1] ++ [q2])=true
 | [],i,q1,q2,hl,_,h1,h2=>by
  have a1:¬ i+1=n.kids.length:=by simp at hl;omega
  have a2:i+2=n.kids.length:=by simpa using hl
  have b1:i+1+1=n.kids.length:=by omega
  unfold pE at h2
  simp only [aaS] at h2
  have h3:=h2.2;simp only [List.nil_append,List.cons_append,oJ,ru,mJ,hk,Jb h1,if_neg a1,if_pos a2,if_pos b1,h1,h2.1]
  revert h3
  cases (q2.1 == 1) <;> cases q2.2 <;> simp
 | q :: r,i,q1,q2,hl,hq,h1,h2=>by
  have a1:¬ i+1=n.kids.length:=by simp at hl;omega
  have a2:¬ i+2=n.kids.length:=by simp at hl;omega
  have h0:=hq q (List.mem_cons_self ..);have h9:q.1=34:=by simpa using h0
  have ih:=vg hk r (i+1) q1 q2 (by simp at hl;omega) (fun x hx=>hq x (List.mem_cons_of_mem _ hx)) h1 h2
  show (ru n i q && oJ n (i+1) (r ++ [q1] ++ [q2]))=true
  rw [ih];simp [ru,mJ,hk,if_neg a1,if_neg a2,h9]
section
variable {l:List Tok} {en:Int} (hT:rF l)
include hT
end
end Mist
namespace Mist
theorem Fo.few {ns:List Nd}{a b:Nat}{as:List Int}(h:Fo ns a b as):as.length+a≤b:=by
 induction h with
 | nil=>simp
 | snoc h k e i j=>rw [aaO,aaT];have:=Fo.le k;omega
theorem I5 {t:Tr}{x:Nd}(hm:jC x=true):sized t x=gD t x:=by
 unfold sized gD;by_cases rT:x.kind=40
 ·rw [if_pos rT,if_pos rT];rw [aaI];simp [within];omega
 rw [if_neg rT,if_neg rT];by_cases h46:x.kind=46
 ·simp only [h46];simp [jC,h46] at hm
  by_cases h7:x.n=7
  ·simp [h7] at hm;simp [h7,hm]
  ·by_cases h8:x.n=8
   ·simp [h8]
   ·simp [h7,h8] at hm;simp [hm]
 ·simp [h46]
theorem yJ {T:Tr}(hA:jN T.nodes)(hW:Wf T.nodes)(hF:Fo T.nodes 0 T.nodes.length T.items){i:Nat}{x:Nd}(hx:T.nodes[i]? = some x) :
  x.kids.length≤i∧sized T x=gD T x∧(x.kind=40→∃ k0 k1:Nat,x.kids=[(k0:Int),(k1:Int)]∧k0 < T.nodes.length∧k1 < T.nodes.length∧(-9999≤(nd T k0).n∧(nd T k0).n≤9999)∧(-9999≤(nd T k1).n∧(nd T k1).n≤9999)):=by
 have hi:i < T.nodes.length:=(aaE.1 hx).1;have hok:=hA i x hx;unfold uP okB at hok
 simp only [aaS] at hok
 obtain⟨⟨⟨⟨⟨⟨_,_⟩,_⟩,hm⟩,_⟩,_⟩,hk⟩:=hok
 refine⟨?_,I5 hm,fun rT=>?_⟩
 ·obtain⟨n,m,hn,_,hf⟩:=hF.each i (aaL _) hi;obtain rfl:=aaP (hn.symm.trans hx)
  have:=hf.few
  omega
 ·have h2:x.kids.length=2:=by simpa [jC,rT] using hm
  obtain⟨a,b,hab⟩:∃ a b,x.kids=[a,b]:=by
   rcases hc:x.kids with _ | ⟨a,_ | ⟨b,_ | ⟨c,r⟩⟩⟩
   ·rw [hc] at h2;simp at h2
   ·rw [hc] at h2;simp at h2
   ·exact⟨a,b,rfl⟩
   ·rw [hc] at h2;simp at h2
  have ha:=hW i x hx a (by rw [hab];simp);have hb:=hW i x hx b (by rw [hab];simp);rw [hab] at hk
  simp only [List.map_cons,List.map_nil,oJ,ru,mJ,rT,aaS] at hk
  have num:∀ c:Int,0≤c→c < (i:Int)→(dB T.nodes c).1=1→-9999≤(nd T c.toNat).n∧(nd T c.toNat).n≤9999:=by
   intro c h0 h1 hc;have hl:c.toNat < T.nodes.length:=by omega
   have hk1:(nd T c.toNat).kind=1:=hc;have hok:=hA c.toNat _ (Cw hl);unfold uP okB at hok
   simp only [aaS] at hok
   have tL:=hok.1.1.2
   simpa [gu,hk1,within] using tL
  refine⟨a.toNat,b.toNat,by rw [hab,Int.toNat_of_nonneg ha.1,Int.toNat_of_nonneg hb.1],by omega,by omega,num a ha.1 ha.2 ?_,num b hb.1 hb.2 ?_⟩
  ·have:=hk.1.1;simpa using this
  ·have:=hk.2.1;simpa using this
end Mist
namespace Mist
end Mist
namespace Mist
abbrev Pcs:=List (Bs × Nat × Bs)
structure abd where
 left:Bs
 ns:List Nd
def abd.nx (s:abd):Nat:=(s.left.headD 0).toNat
def abd.tl (s:abd):abd:=⟨s.left.tail,s.ns⟩
def abd.put (s:abd)(n:Nd):abd:=⟨s.left,s.ns ++ [n]⟩
def abd.id (s:abd):Int:=(s.ns.length:Int)
structure abb where
 pc:Pcs
 ix:Int
 st:abd
structure aa' where
 pc:Pcs
 ix:List Int
 st:abd
def gapsG:List Bs:=[[32],[32,32],[10],[32,35,32,97,59,32,40,10],[32],[32,10,32]]
def acM (wild:Bool)(s:abd):Bs:=if wild=true then sg gapsG (s.nx % 6) else [32]
def acC (wild:Bool)(s:abd):abd:=if wild=true then s.tl else s
def wordsG:List Bs:=[[97],[98],[99,50],[115,111],[105,102,102],[116,114,101,101],[120],[108,101,116,115]]
def acH (b:Nat):Bs:=sg wordsG (b % 8)
def Pcs.on (g:Bs):Pcs→Pcs
 | []=>[]
 | (h,k,t) :: r=>(g ++ h,k,t) :: r
def sgn (t:Bs):Bs × Nat × Bs:=([],4,t)
def numPc (n:Int):Pcs:=if n < 0 then [([],4,[45]),([],2,Go.Lib.itoa (-n))] else [([],2,Go.Lib.itoa n)]
def someP (wild:Bool)(I:Pcs)(s:abd):Pcs :=
 if wild=true∧s.nx % 4=0 then sgn [40] :: sgn [40] :: I ++ [(acM wild s.tl,4,[41]),sgn [41]] else sgn [40] :: I ++ [sgn [41]]
def someS (wild:Bool)(s:abd):abd:=if wild=true then (if s.nx % 4=0 then acC wild s.tl else s.tl) else s
def acP (I:Pcs)(s:abd)(n:Nd):abb:=⟨I,s.id,s.put n⟩
def leafG (b:Nat)(s:abd):abb :=
 if b < 20 then acP (numPc ((b * 7:Nat):Int)) s ⟨1,[],((b * 7:Nat):Int),[],0⟩
 else if b < 30 then acP [([],3,if b % 2=0 then [102,97,108,115,101] else [116,114,117,101])] s ⟨2,[],((b % 2:Nat):Int),[],0⟩
 else acP [([],1,acH b)] s ⟨3,acH b,0,[],0⟩
def opsG:List Bs:=[[43],[45],[42],[47],[37],[61,61],[33,61],[60],[60,61],[62],[62,61],[97,110,100],[111,114]]
def opK (k:Nat):Nat:=if k < 11 then 4 else 3
section
variable (wild:Bool) (E:abd→abb)
def acS:Nat→aa'→aa'
 | 0,r=>r
 | m+1,r =>
  if r.ix=[] then
   let a:=E r.st
   acS m ⟨r.pc ++ a.pc,r.ix ++ [a.ix],a.st⟩
  else
   let a:=E (acC wild r.st)
   acS m ⟨r.pc ++ (sgn [44] :: Pcs.on (acM wild r.st) a.pc),r.ix ++ [a.ix],a.st⟩
def notG (b:Nat)(s:abd):abb :=
 let a:=E s
 let I:=(if b % 2=0 then ([],3,[110,111,116]) else sgn [45]) :: Pcs.on (acM wild a.st) a.pc
 let s1:=acC wild a.st
 acP (someP wild I s1) (someS wild s1) ⟨if b % 2=0 then 5 else 4,[],0,[a.ix],0⟩
def binG (b:Nat)(s:abd):abb :=
 let a:=E s
 let c:=E a.st
 let s1:=acC wild c.st
 let s2:=acC wild s1
 let I:=a.pc ++ (acM wild c.st,opK (b % 13),sg opsG (b % 13)) :: Pcs.on (acM wild s1) c.pc
 acP (someP wild I s2) (someS wild s2) ⟨6+b % 13,[],0,[a.ix,c.ix],0⟩
def opG (b:Nat)(s:abd):abb:=if b < 75 then notG wild E b s else binG wild E b s
def ifG (s:abd):abb :=
 let a:=E s
 let c:=E a.st
 let d:=E c.st
 let s1:=acC wild d.st
 let s2:=acC wild s1
 let s3:=acC wild s2
 let s4:=acC wild s3
 let s5:=acC wild s4
 let I:=([],3,[105,102]) :: (Pcs.on (acM wild d.st) a.pc ++ (acM wild s1,3,[116,104,101,110]) :: (Pcs.on (acM wild s2) c.pc ++ (acM wild s3,3,[101,108,115,101]) :: Pcs.on (acM wild s4) d.pc))
 acP (someP wild I s5) (someS wild s5) ⟨19,[],0,[a.ix,c.ix,d.ix],0⟩
def letG (x:Bs)(s:abd):abb :=
 let a:=E s
 let c:=E a.st
 let s1:=acC wild c.st
 let s2:=acC wild s1
 let s3:=acC wild s2
 let s4:=acC wild s3
 let I:=([],3,[108,101,116]) :: (acM wild c.st,1,x) :: (acM wild s1,4,[61]) :: (a.pc ++ (acM wild s2,3,[105,110]) :: Pcs.on (acM wild s3) c.pc)
 acP (someP wild I s4) (someS wild s4) ⟨20,x,0,[a.ix,c.ix],0⟩
def callG (x:Bs)(s:abd):abb :=
 let r:=acS wild E (s.nx % 4) ⟨[],[],s.tl⟩
 acP (([],1,x) :: sgn [40] :: (r.pc ++ [(acM wild r.st,4,[41])])) (acC wild r.st) ⟨21,x,0,r.ix,0⟩
def fieldG (x:Bs)(s:abd):abb :=
 let a:=E s
 acP (sgn [40] :: (a.pc ++ [sgn [41],(acM wild a.st,4,[46]),([],1,x)])) (acC wild a.st) ⟨22,x,0,[a.ix],0⟩
def indexG (s:abd):abb :=
 let a:=E s
 let c:=E a.st
 acP (sgn [40] :: (a.pc ++ sgn [41] :: sgn [91] :: (c.pc ++ [(acM wild c.st,4,[93])]))) (acC wild c.st) ⟨23,[],0,[a.ix,c.ix],0⟩
def arrayG (s:abd):abb :=
 let r:=acS wild E (1+s.nx % 4) ⟨[],[],s.tl⟩
 acP (sgn [91] :: (Pcs.on (acM wild r.st) r.pc ++ [sgn [93]])) (acC wild r.st) ⟨26,[],0,r.ix,0⟩
def putsG:Nat→aa'→aa'
 | 0,r=>r
 | m+1,r =>
  let s0:=if r.ix=[] then r.st else acC wild r.st
  let a:=E s0.tl
  let I:Pcs:=([],1,acH s0.nx) :: sgn [58] :: a.pc
  putsG m ⟨r.pc ++ (if r.ix=[] then I else (acM wild r.st,4,[44]) :: I),r.ix ++ [a.st.id],a.st.put ⟨25,acH s0.nx,0,[a.ix],0⟩⟩
def recG (x:Bs)(b:Nat)(s:abd):abb :=
 let r:=putsG wild E (1+b % 3) ⟨[],[],s⟩
 acP (([],1,x) :: sgn [123] :: (r.pc ++ [(acM wild r.st,4,[125])])) (acC wild r.st) ⟨24,x,0,r.ix,0⟩
def compG (b:Nat)(s:abd):abb :=
 let x:=acH s.nx
 if b % 7=0 then ifG wild E s.tl else if b % 7=1 then letG wild E x s.tl else if b % 7=2 then callG wild E x s.tl else if b % 7=3 then fieldG wild E x s.tl
 else if b % 7=4 then indexG wild E s.tl else if b % 7=5 then arrayG wild E s.tl else recG wild E x b s.tl
end
def acG (wild:Bool):Nat→abd→abb
 | 0,s=>leafG (s.nx % 60) s.tl
 | d+1,s=>if s.nx < 60 then leafG s.nx s.tl else if s.nx < 150 then opG wild (acG wild d) s.nx s.tl else compG wild (acG wild d) s.nx s.tl
def acI (wild:Bool):Nat→abd→abb
 | 0,s =>
  if s.nx % 4=0 then acP [([],3,[105,110,116])] s.tl ⟨30,[],0,[],0⟩ else if s.nx % 4=1 then acP [([],3,[98,111,111,108])] s.tl ⟨31,[],0,[],0⟩
  else acP [([],1,acH s.nx)] s.tl ⟨32,acH s.nx,0,[],0⟩
 | d+1,s =>
  if s.nx % 4=0 then acP [([],3,[105,110,116])] s.tl ⟨30,[],0,[],0⟩ else if s.nx % 4=1 then acP [([],3,[98,111,111,108])] s.tl ⟨31,[],0,[],0⟩
  else if s.nx % 4=2 then acP [([],1,acH s.nx)] s.tl ⟨32,acH s.nx,0,[],0⟩
  else
   let a:=acI wild d s.tl
   let s1:=acC wild a.st.tl
   acP (sgn [91] :: (a.pc ++ [(acM wild a.st.tl,4,[59]),([],2,Go.Lib.itoa ((1+a.st.nx % 6:Nat):Int)),sgn [93]])) s1 ⟨33,[],((1+a.st.nx % 6:Nat):Int),[a.ix],0⟩
def acL (wild:Bool):Nat→aa'→aa'
 | 0,r=>r
 | m+1,r =>
  let s0:=if r.ix=[] then r.st else acC wild r.st
  let g:=if r.ix=[] then [] else acM wild r.st
  let a:=acI wild 2 s0.tl
  let s1:=acC wild a.st
  let I:Pcs:=(g,1,acH s0.nx) :: sgn [58] :: Pcs.on (acM wild a.st) a.pc
  acL wild m ⟨r.pc ++ (if r.ix=[] then I else sgn [44] :: I),r.ix ++ [s1.id],s1.put ⟨34,acH s0.nx,0,[a.ix],0⟩⟩
def acT (n:Int)(s:abd):abb:=acP (numPc n) s ⟨1,[],n,[],0⟩
def queriesG:List Bs:=[[],[109,117,115,116],[109,97,121],[99,111,117,110,116],[98,111,117,110,100,115],[118,97,108,117,101,115],[119,104,121],[98,108,97,109,101],[108,111,111,107]]
def askG (wild:Bool)(q:Nat)(s:abd):abb :=
 let many:=if q=7 then 0 else if q=8 then 1+s.nx % 4 else 1
 let r:=acS wild (acG wild 3) many ⟨[],[],if q=8 then s.tl else s⟩
 acP (([],3,[97,115,107]) :: (acM wild r.st,3,sg queriesG q) :: Pcs.on [32] r.pc) (acC wild r.st) ⟨46,[],(q:Int),r.ix,0⟩
def chooseG (wild:Bool)(x:Bs)(s:abd):abb :=
 let low:Int:=((s.nx % 30:Nat):Int) - 15
 let a:=acT low s.tl
 let c:=acT (low+((a.st.nx % 12:Nat):Int)) a.st.tl
 let s1:=acC wild c.st
 let s2:=acC wild s1
 acP (([],3,[99,104,111,111,115,101]) :: ([32],1,x) :: sgn [58] :: (Pcs.on (acM wild c.st) a.pc ++ (acM wild s1,4,[46,46]) :: Pcs.on (acM wild s2) c.pc)) (acC wild s2) ⟨40,x,0,[a.ix,c.ix],0⟩
def typeG (wild:Bool)(x:Bs)(s:abd):abb :=
 let r:=acL wild (1+s.nx % 6) ⟨[],[],s.tl⟩
 acP (([],3,[116,121,112,101]) :: ([32],1,x) :: sgn [61] :: sgn [123] :: (r.pc ++ [sgn [125]])) r.st ⟨41,x,0,r.ix,0⟩
def uptoN (s:abd):Nat:=if 8 < s.nx % 12 then 0 else s.nx % 12
def funG (wild:Bool)(x:Bs)(s:abd):abb :=
 let r:=acL wild (s.nx % 5) ⟨[],[],s.tl⟩
 let t:=acI wild 2 r.st
 let n:=uptoN t.st
 let s1:=if 0 < n then acC wild t.st.tl else t.st.tl
 let u:Pcs:=if 0 < n then [([32],3,[117,112,116,111]),(acM wild t.st.tl,2,Go.Lib.itoa (n:Int))] else []
 let b:=acG wild 4 s1
 let s2:=acC wild b.st
 let s3:=acC wild s2
 acP (([],3,[102,117,110]) :: (acM wild b.st,1,x) :: sgn [40] :: (r.pc ++ sgn [41] :: (acM wild s2,4,[58]) :: (t.pc ++ (u ++ (acM wild s3,4,[61]) :: b.pc)))) (acC wild s3) ⟨42,x,(n:Int),r.ix ++ [t.ix,b.ix],0⟩
def letItemG (wild:Bool)(x:Bs)(s:abd):abb :=
 let a:=acG wild 4 s
 acP (([],3,[108,101,116]) :: ([32],1,x) :: sgn [61] :: Pcs.on (acM wild a.st) a.pc) (acC wild a.st) ⟨43,x,0,[a.ix],0⟩
def observeG (wild:Bool)(x:Bs)(s:abd):abb :=
 let a:=acG wild 4 s
 acP (([],3,[111,98,115,101,114,118,101]) :: ([32],1,x) :: (acM wild a.st,4,[58]) :: a.pc) (acC wild a.st) ⟨44,x,0,[a.ix],0⟩
def retractG (wild:Bool)(x:Bs)(s:abd):abb :=
 acP [([],3,[114,101,116,114,97,99,116]),(acM wild s,1,x)] (acC wild s) ⟨45,x,0,[],0⟩
def itemG0 (wild:Bool)(s:abd):abb :=
 let b:=s.nx
 let x:=acH s.tl.nx
 let s2:=s.tl.tl
 if b % 7=0 then chooseG wild x s2 else if b % 7=1 then typeG wild x s2 else if b % 7=2 then funG wild x s2 else if b % 7=3 then letItemG wild x s2
 else if b % 7=4 then observeG wild x s2 else if b % 7=5 then retractG wild x s2 else askG wild (1+s2.nx % 8) s2.tl
def trailG (s:abd):Bs:=if s.nx % 7=6∧s.tl.tl.nx % 8=6 then [32] else []
def itemG (wild:Bool)(s:abd):abb :=
 let a:=itemG0 wild s
 ⟨a.pc ++ [(trailG s ++ acM wild a.st,4,[59])],a.ix,acC wild a.st⟩
def growG (wild:Bool):Nat→aa'→aa'
 | 0,r=>r
 | m+1,r =>
  if r.st.left=[] then r
  else
   let a:=itemG wild r.st
   growG wild m ⟨r.pc ++ (if r.ix=[] then a.pc else Pcs.on [10] a.pc),r.ix ++ [a.ix],a.st⟩
def grown (wild:Bool)(zA:Bs):aa':=growG wild 12 ⟨[],[],⟨zA,[]⟩⟩
def grownText (wild:Bool)(zA:Bs):Bs:=aN (grown wild zA).pc ++ (if (grown wild zA).ix=[] then [] else [10])
def grownTree (wild:Bool)(zA:Bs):Tr:=⟨(grown wild zA).st.ns,(grown wild zA).ix⟩
def grownOk (s:Bs):Bool:=decide (s.length≤2000) && decide ((s.filter fun b=>!(b == 32) && !(b == 10)).length≤800)
end Mist
