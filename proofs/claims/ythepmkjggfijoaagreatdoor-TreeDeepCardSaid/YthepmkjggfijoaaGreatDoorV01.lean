/-
  A part of the proof.
-/
import Derived.Test.YthepmkjggfijoaaGreatDoorSA
import Derived.Lib.AtoiTie
import Derived.Test.YthepmkjggfijoaaGreatDoorS04
set_option linter.all false
set_option maxRecDepth 100000
namespace Mist
section
variable (l:List Tok) (en:Int)
end
section
variable {l:List Tok} {en:Int}
end
end Mist
namespace Mist
section
variable (l:List Tok)
end
section
variable {l:List Tok} {k M M1:Nat} {ns:List Nd}
variable {en:Int}
end
end Mist
namespace Mist
section
variable {l:List Tok} {en:Int}
end
section
variable (l:List Tok)
end
section
variable {l:List Tok} {en:Int} {k M:Nat} {ns:List Nd}
section
variable (hK:∀ t ∈ l,Mist.kind t.text=t.kind)
include hK
end
end
end Mist
namespace Mist
section
variable (s:Bs) (h0:¬ s.length=0)
include h0
end
end Mist
namespace Mist
end Mist
namespace Mist
end Mist
namespace Mist
theorem Ct (s:Bs)(h:kind s ≠ 0):s.length≤12∧0 < s.length:=by
 have hk:(first s).2=s∧(first s).1 ≠ 0:=by
  unfold kind at h
  split at h
  ·exact⟨by assumption,h⟩
  ·exact absurd rfl h
 obtain⟨h1,h2⟩:=hk;have hp:=kr s h2;rw [h1] at hp
 refine⟨?_,hp.1⟩
 by_cases h0:s.length=0
 ·omega
 by_cases hs:dP (gt s 0)=true
 ·by_cases hk:hasB keywords (s.take (aV dI s))=true
  ·rw [jI s h0 hs hk] at h1
   simp only at h1
   rw [h1] at hk
   have:∀ g ∈ keywords,g.length≤12:=by decide
   exact this s (by simpa [hasB] using hk)
  ·by_cases hn:aV dI s≤12
   ·rw [iD s h0 hs hk hn] at h1
    simp only at h1
    have:=congrArg List.length h1
    simp at this
    omega
   ·rw [jE s h0 hs hk hn] at h2;exact absurd rfl h2
 ·by_cases hd:aQ (gt s 0)=true
  ·by_cases hn:g_ (s.take (aV aQ s))=true
   ·rw [iJ s h0 hs hd hn] at h1
    simp only at h1
    rw [h1] at hn
    simp [g_] at hn
    omega
   ·rw [jm s h0 hs hd hn] at h2;exact absurd rfl h2
  ·cases hg:jL s with
   | none=>rw [iM s h0 hs hd hg] at h2;exact absurd rfl h2
   | some g =>
    rw [iN s h0 hs hd g hg] at h1
    simp only at h1
    rw [h1] at hg
    have:∀ g ∈ signs,g.length≤12:=by decide
    exact this s (List.mem_of_find?_eq_some hg)
end Mist
namespace Mist
open Go
end Mist
namespace Mist
theorem tH (p:UInt8→Bool)(s:Bs):aV p (s.take (aV p s))=aV p s:=by
 induction s with
 | nil=>rfl
 | cons b r ih =>
  by_cases h:p b=true
  ·unfold aV at ih ⊢
   rw [List.takeWhile_cons_of_pos h,List.length_cons,List.take_succ_cons,List.takeWhile_cons_of_pos h,List.length_cons,ih]
  ·unfold aV;rw [List.takeWhile_cons_of_neg h];rfl
theorem yO:∀ g ∈ signs,first g=(4,g):=by decide +kernel
theorem sK (s:Bs)(n:Nat)(h:0 < n):gt (s.take n) 0=gt s 0:=by
 cases n with
 | zero=>omega
 | succ n=>cases s <;> simp [gt]
theorem zU (s:Bs)(h:(first s).1 ≠ 0):first (first s).2=first s:=by
 by_cases h0:s.length=0
 ·rw [lH s h0] at h;exact absurd rfl h
 by_cases hs:dP (gt s 0)=true
 ·have hp:=rZ dI s h0 (by simp [dI,hs]);have hw:=mR dI s;have hl:¬ (s.take (aV dI s)).length=0:=by rw [List.length_take];omega
  have hg:dP (gt (s.take (aV dI s)) 0)=true:=by rw [sK s _ hp];exact hs
  have OA:=tH dI s;have Qt:(s.take (aV dI s)).take (aV dI s)=s.take (aV dI s):=by rw [List.take_take,Nat.min_self]
  by_cases hk:hasB keywords (s.take (aV dI s))=true
  ·rw [jI s h0 hs hk];rw [jI _ hl hg (by rw [OA,Qt];exact hk),OA,Qt]
  ·by_cases hn:aV dI s≤12
   ·rw [iD s h0 hs hk hn];rw [iD _ hl hg (by rw [OA,Qt];exact hk) (by rw [OA];exact hn),OA,Qt]
   ·rw [jE s h0 hs hk hn] at h;exact absurd rfl h
 ·by_cases hd:aQ (gt s 0)=true
  ·have hp:=rZ aQ s h0 hd;have hw:=mR aQ s;have hl:¬ (s.take (aV aQ s)).length=0:=by rw [List.length_take];omega
   have hg:aQ (gt (s.take (aV aQ s)) 0)=true:=by rw [sK s _ hp];exact hd
   have hg2:¬ dP (gt (s.take (aV aQ s)) 0)=true:=by rw [sK s _ hp];exact hs
   have OA:=tH aQ s;have Qt:(s.take (aV aQ s)).take (aV aQ s)=s.take (aV aQ s):=by rw [List.take_take,Nat.min_self]
   by_cases hn:g_ (s.take (aV aQ s))=true
   ·rw [iJ s h0 hs hd hn];rw [iJ _ hl hg2 hg (by rw [OA,Qt];exact hn),OA,Qt]
   ·rw [jm s h0 hs hd hn] at h;exact absurd rfl h
  ·cases hg:jL s with
   | none=>rw [iM s h0 hs hd hg] at h;exact absurd rfl h
   | some g =>
    rw [iN s h0 hs hd g hg];exact yO g (List.mem_of_find?_eq_some hg)
theorem uH (s:Bs)(h:(first s).1 ≠ 0):kind (first s).2=(first s).1:=by
 unfold kind;rw [zU s h,if_pos rfl]
def Placed (s:Bs):Nat→List Tok→Prop
 | a,[]=>s.length≤a
 | a,t :: r=>a < s.length∧t.at_=(a:Int)∧first (s.drop a)=(t.kind,t.text)∧t.kind ≠ 0∧Placed s (a+t.text.length+skip (s.drop (a+t.text.length))) r
theorem lX (s:Bs):∀ (f a:Nat) (acc l:List Tok) (x:Nat),s.length < f+a→dJ f s a acc=(l,x,0)→∃ r,l=acc ++ r∧Placed s a r
 | 0,a,acc,l,x,hf,h=>by
  rw [dJ] at h
  simp only [Prod.mk.injEq] at h
  exact⟨[],by rw [h.1];simp,by show s.length≤a;omega⟩
 | f+1,a,acc,l,x,hf,h=>by
  by_cases ha:s.length≤a
  ·rw [jK f s a acc ha] at h
   simp only [Prod.mk.injEq] at h
   exact⟨[],by rw [h.1];simp,ha⟩
  ·by_cases hk:(first (s.drop a)).1=0
   ·rw [kR f s a acc ha hk] at h
    simp at h
   ·by_cases h8:acc.length=800
    ·rw [kQ f s a acc ha hk h8] at h
     simp at h
    ·rw [ji f s a acc ha hk h8] at h
     have hl:=kr _ hk;obtain⟨r,hr,hp⟩:=lX s f _ _ l x (by omega) h
     refine⟨⟨(first (s.drop a)).1,(first (s.drop a)).2,(a:Int)⟩ :: r,by rw [hr];simp,by omega,rfl,rfl,hk,hp⟩
theorem yL (s:Bs)(h:(Mist.read s).2.2=0):Placed s (skip s) (Mist.read s).1:=by
 by_cases hc:(check s).2=0
 ·have e:Mist.read s=dJ (s.length+1) s (skip s) []:=by unfold Mist.read;rw [if_neg (by simpa using hc)]
  obtain⟨r,hr,hp⟩:=lX s (s.length+1) (skip s) [] (Mist.read s).1 (Mist.read s).2.1 (by omega) (by rw [← e,← h]);rw [hr];exact hp
 ·have e:Mist.read s=([],(check s).1,(check s).2):=by unfold Mist.read;rw [if_pos hc]
  rw [e] at h
  exact absurd h hc
end Mist
namespace Mist
def fI:List Bs:=[[40],[41],[91],[93],[123],[125],[44],[59],[58],[43],[45]]
end Mist
namespace Mist
def aN:List (Bs × Nat × Bs)→Bs
 | []=>[]
 | (g,_,t) :: r=>g ++ (t ++ aN r)
def fO:Nat→List (Bs × Nat × Bs)→List Tok
 | _,[]=>[]
 | a,(g,k,t) :: r=>⟨k,t,((a+g.length:Nat):Int)⟩ :: fO (a+g.length+t.length) r
def Good:List (Bs × Nat × Bs)→Prop
 | []=>True
 | (g,k,t) :: r=>skip (g ++ (t ++ aN r))=g.length∧first (t ++ aN r)=(k,t)∧k ≠ 0∧0 < t.length∧Good r
theorem wD (its:List (Bs × Nat × Bs)):∀ (pre:Bs),Good its→Placed (pre ++ aN its) (pre.length+skip (aN its)) (fO pre.length its):=by
 induction its with
 | nil=>intro pre _;show (pre ++ aN []).length≤_;simp [aN]
 | cons x r ih =>
  obtain⟨g,k,t⟩:=x;intro pre hg;obtain⟨h1,h2,h3,h4,h5⟩:=hg;have hi:=ih (pre ++ g ++ t) h5;have e:pre ++ aN ((g,k,t) :: r)=(pre ++ g ++ t) ++ aN r:=by simp [aN]
  have hs:skip (aN ((g,k,t) :: r))=g.length:=h1;rw [hs,e]
  have hd:((pre ++ g ++ t) ++ aN r).drop (pre.length+g.length)=t ++ aN r:=by
   rw [List.append_assoc (pre ++ g),List.drop_append_of_le_length (by simp)];simp
  have hd2:((pre ++ g ++ t) ++ aN r).drop (pre.length+g.length+t.length)=aN r:=by
   rw [show pre.length+g.length+t.length=(pre ++ g ++ t).length by simp;omega];simp
  have hl:(pre ++ g ++ t).length=pre.length+g.length+t.length:=by simp;omega
  rw [hl] at hi
  refine⟨?_,rfl,by rw [hd];exact h2,h3,?_⟩
  ·simp;omega
  ·show Placed _ (pre.length+g.length+t.length+skip (List.drop (pre.length+g.length+t.length) _)) _
   rw [hd2];exact hi
theorem jW (s:Bs):∀ (r:List Tok) (f a:Nat) (acc:List Tok),s.length < f+a→acc.length+r.length≤800→Placed s a r→dJ f s a acc=(acc ++ r,0,0)
 | [],f,a,acc,hf,_,h=>by
  have ha:s.length≤a:=h
  cases f with
  | zero=>rw [dJ];simp
  | succ f=>rw [jK f s a acc ha];simp
 | t :: r,f,a,acc,hf,hn,h=>by
  obtain⟨h1,h2,h3,h4,h5⟩:=h;obtain⟨f,rfl⟩:∃ f',f=f'+1:=⟨f - 1,by omega⟩;have hk:¬ (first (s.drop a)).1=0:=by rw [h3];exact h4
  have hl:=kr _ hk;rw [ji f s a acc (by omega) hk (by simp at hn;omega)];rw [h3] at hl ⊢
  have e:(⟨(t.kind,t.text).1,(t.kind,t.text).2,(a:Int)⟩:Tok)=t:=by
   cases t;simp at h2 ⊢;exact h2.symm
  rw [e]
  have:=jW s r f (a+t.text.length+skip (s.drop (a+t.text.length))) (acc ++ [t]) (by simp at hl;omega) (by simp at hn ⊢;omega) h5
  simp only [List.append_assoc,List.singleton_append] at this
  exact this
theorem mW (a:Nat)(its:List (Bs × Nat × Bs)):(fO a its).length=its.length:=by
 induction its generalizing a with
 | nil=>rfl
 | cons x r ih=>obtain⟨g,k,t⟩:=x;simp [fO,ih]
theorem wK (its:List (Bs × Nat × Bs))(h:Good its)(hn:its.length≤800)(hc:(check (aN its)).2=0):Mist.read (aN its)=(fO 0 its,0,0):=by
 have hp:=wD its [] h;simp only [List.nil_append,List.length_nil,Nat.zero_add] at hp
 have e:Mist.read (aN its)=dJ ((aN its).length+1) (aN its) (skip (aN its)) []:=by unfold Mist.read;rw [if_neg (by simpa using hc)]
 rw [e,jW _ _ _ _ [] (by omega) (by simp [mW];omega) hp];rfl
def heads:List UInt8:=[32,10,35,40,41,91,93,123,125,44,59,58,43,45]
def Tail (r:Bs):Prop:=r=[]∨∃ c r',r=c :: r'∧c ∈ heads
theorem lQ (p:UInt8→Bool)(t r:Bs)(h:t.all p=true)(hr:r=[]∨∃ c r',r=c :: r'∧p c=false):aV p (t ++ r)=t.length:=by
 have ht:∀ b ∈ t,p b=true:=by simpa using h
 unfold aV;rw [List.takeWhile_append_of_pos ht];rcases hr with rfl | ⟨c,r',rfl,hc⟩
 ·simp
 ·rw [List.takeWhile_cons_of_neg (by simp [hc])];simp
theorem zX:∀ c ∈ heads,dI c=false:=by decide
theorem Es {r:Bs}(h:Tail r):r=[]∨∃ c r',r=c :: r'∧dI c=false:=by
 rcases h with h | ⟨c,r',h,hc⟩
 ·exact .inl h
 ·exact .inr ⟨c,r',h,zX c hc⟩
theorem Er:∀ g ∈ signs,g.length≤2:=by decide
theorem Ei (g:Bs)(x y:UInt8)(r:Bs)(h:g.length≤2):mO g (x :: y :: r)=mO g [x,y]:=by
 unfold mO
 match g,h with
 | [],_=>rfl
 | [a],_=>simp [List.isPrefixOf]
 | [a,b],_=>simp [List.isPrefixOf]
theorem find_congr {p q:Bs→Bool}:∀ (l:List Bs),(∀ g ∈ l,p g=q g)→l.find? p=l.find? q
 | [],_=>rfl
 | g :: l,h=>by
  rw [List.find?_cons,List.find?_cons,h g (by simp),find_congr l (fun x hx=>h x (by simp [hx]))]
theorem Az (x y:UInt8)(r:Bs):jL (x :: y :: r)=jL [x,y]:=by
 unfold jL;exact find_congr signs fun g hg=>Ei g x y r (Er g hg)
theorem oo (x y:UInt8)(r:Bs)(hs:dP x=false)(hd:aQ x=false):first (x :: y :: r)=first [x,y]:=by
 have h1:¬ dP (gt (x :: y :: r) 0)=true:=by show ¬ dP x=true;simp [hs]
 have h2:¬ aQ (gt (x :: y :: r) 0)=true:=by show ¬ aQ x=true;simp [hd]
 have h3:¬ dP (gt [x,y] 0)=true:=by show ¬ dP x=true;simp [hs]
 have h4:¬ aQ (gt [x,y] 0)=true:=by show ¬ aQ x=true;simp [hd]
 have e:=Az x y r
 cases hg:jL [x,y] with
 | none=>rw [iM _ (by simp) h1 h2 (e.trans hg),iM _ (by simp) h3 h4 hg]
 | some g=>rw [iN _ (by simp) h1 h2 g (e.trans hg),iN _ (by simp) h3 h4 g hg]
theorem ng (t r:Bs)(hr:Tail r)(h0:0 < t.length)(hs:dP (gt t 0)=true)(ha:t.all dI=true)(hk:first t ≠ (0,[])):first (t ++ r)=first t:=by
 have hw:=lQ dI t r ha (Es hr);have hw2:=lQ dI t [] ha (.inl rfl);rw [List.append_nil] at hw2
 have hg:gt (t ++ r) 0=gt t 0:=by cases t <;> simp_all [gt]
 have htk:(t ++ r).take (aV dI (t ++ r))=t:=by rw [hw];simp
 have yj:t.take (aV dI t)=t:=by rw [hw2];simp
 have hl:¬ (t ++ r).length=0:=by rw [aaO];omega
 have hl2:¬ t.length=0:=by omega
 by_cases ZF:hasB keywords t=true
 ·rw [jI _ hl (by rw [hg];exact hs) (by rw [htk];exact ZF),jI _ hl2 hs (by rw [yj];exact ZF),htk,yj]
 ·by_cases hn:t.length≤12
  ·rw [iD _ hl (by rw [hg];exact hs) (by rw [htk];exact ZF) (by rw [hw];exact hn),iD _ hl2 hs (by rw [yj];exact ZF) (by rw [hw2];exact hn),htk,yj]
  ·exact absurd (jE _ hl2 hs (by rw [yj];exact ZF) (by rw [hw2];exact hn)) hk
theorem xP:∀ x ∈ fI,∀ n:Fin 256,first (x ++ [UInt8.ofNat n.val])=(4,x):=by decide +kernel
theorem zR:∀ x ∈ fI,x.length=1∧dP (gt x 0)=false∧aQ (gt x 0)=false∧first x=(4,x):=by decide +kernel
theorem nV (x:Bs)(hx:x ∈ fI)(r:Bs):first (x ++ r)=(4,x):=by
 obtain⟨h1,h2,h3,h4⟩:=zR x hx
 cases r with
 | nil=>rw [List.append_nil];exact h4
 | cons c r =>
  have hh:=xP x hx ⟨c.toNat,c.toNat_lt⟩;rw [show UInt8.ofNat (⟨c.toNat,c.toNat_lt⟩:Fin 256).val=c by simp] at hh
  revert h2 h3 hh
  match x,h1 with
  | [a],_ =>
   intro h2 h3 hh
   show first (a :: c :: r)=_
   rw [oo a c r h2 h3];exact hh
end Mist
namespace Mist
end Mist
namespace Mist
theorem Grown.ou {lo:Nat}{ns0 ns:List Nd}{p:Nat × Bool→Bool}{as:List Int}(g:Grown lo ns0 p false as ns):Fo ns lo ns.length [hd as]:=by
 have:=g.fo;rwa [g.one rfl] at this
theorem Grown.all1 {lo:Nat}{ns0 ns:List Nd}{p:Nat × Bool→Bool}{m:Bool}{as:List Int}(g:Grown lo ns0 p m as ns):p (dB ns (hd as))=true:=by
 cases as with
 | nil=>exact absurd rfl g.ne
 | cons a r=>exact g.all a (List.mem_cons_self ..)
section
variable {l:List Tok} {en:Int} (hT:rF l)
include hT
theorem pl_in {k:Nat}(h:k < l.length):within (pl l en k) 0 2000=true:=by
 unfold pl within;rw [if_pos h]
 have:=hT.at_ _ (lN l k h)
 simp [this]
theorem ME {k:Nat}(h:(tg l k).kind=1):isName (tx l k)=true:=by
 have:=hT.kind _ (lN l k (fA h (by simp)))
 unfold isName tx;rw [this,h];rfl
omit hT in
theorem z_:isName []=false:=by decide
theorem Ad {k:Nat}(h:(tg l k).kind=2):numOf (tx l k) < 10000:=by
 have h1:=hT.kind _ (lN l k (fA h (by simp)));have h2:kind (tx l k)=2:=by unfold tx;rw [h1,h]
 obtain⟨h3,_,h4⟩:=vo _ h2;exact yG _ h4 h3
omit hT in
theorem jT {ns:List Nd}{n:Nd}{p:Nat × Bool→Bool}(h:∀ i q,p q=true→ru n i q=true):∀ (L:List Int) i,(∀ a ∈ L,p (dB ns a)=true)→oJ n i (L.map (dB ns))=true
 | [],_,_=>rfl
 | a :: r,i,ha=>by
  rw [List.map_cons,oJ,h i _ (ha a (List.mem_cons_self ..)),jT h r (i+1) (fun b hb=>ha b (List.mem_cons_of_mem _ hb))];rfl
theorem jv {ns:List Nd}(K:Nat)(x:Bs)(N:Int)(as:List Int)(k:Nat)(h1:known K=true)(hx:(ig K == isName x)=true)(hx2:(ig K || x.isEmpty)=true)(hm:jC ⟨K,x,N,as,0⟩=true)(h5:gu ⟨K,x,N,as,0⟩=true)(hk:k < l.length)
  (h7:oJ ⟨K,x,N,as,pl l en k⟩ 0 (as.map (dB ns))=true):uP ns ⟨K,x,N,as,pl l en k⟩:=by
 have h6:jC ⟨K,x,N,as,pl l en k⟩=true:=hm;have h8:gu ⟨K,x,N,as,pl l en k⟩=true:=h5;unfold known at h1
 unfold uP okB;simp only [h1,hx,hx2,h6,h8,pl_in hT hk,h7,Bool.and_self]
theorem fV {ns:List Nd}(K:Nat)(x:Bs)(N:Int)(as:List Int)(k:Nat)(hK:K ≠ 24∧K ≠ 41∧K ≠ 34∧K ≠ 33∧K ≠ 40∧K ≠ 42)(h1:known K=true)(hx:(ig K == isName x)=true)(hx2:(ig K || x.isEmpty)=true)
  (hm:jC ⟨K,x,N,as,0⟩=true) (h5:gu ⟨K,x,N,as,0⟩=true) (hk:k < l.length) (ha:∀ a ∈ as,pE (dB ns a)=true):uP ns ⟨K,x,N,as,pl l en k⟩:=by
 refine jv hT K x N as k h1 hx hx2 hm h5 hk (jT (p:=pE) (fun i q hq=>?_) as 0 ha);unfold pE at hq
 unfold ru mJ;simp only [aaS] at hq
 simp only [hK.1,hK.2.1,hK.2.2.1,hK.2.2.2.1,hK.2.2.2.2.1,hK.2.2.2.2.2,if_false,hq.1,Bool.true_and,or_self]
 have:=hq.2
 revert this
 cases (q.1 == 1) <;> cases q.2 <;> simp
theorem bg {K k:Nat}(hK:ig K=true)(h:(tg l k).kind=1):(ig K == isName (tx l k))=true∧(ig K || (tx l k).isEmpty)=true:=by
 rw [ME hT h,hK];exact⟨rfl,rfl⟩
omit hT in
theorem bq {K:Nat}(hK:ig K=false):(ig K == isName [])=true∧(ig K || ([]:Bs).isEmpty)=true:=by
 rw [z_,hK];exact⟨rfl,rfl⟩
omit hT in
theorem Af {v:Lv}{s:Bs}(h:¬ fB v s=0):6≤fB v s∧fB v s≤18:=by
 unfold fB at h ⊢
 cases v <;> simp only at h ⊢ <;> (repeat' split) <;> simp_all
omit hT in
theorem Ij {K:Nat}(h:6≤K∧K≤18):(K ≠ 24∧K ≠ 41∧K ≠ 34∧K ≠ 33∧K ≠ 40∧K ≠ 42)∧known K=true∧ig K=false∧(∀ a b:Int,jC ⟨K,[],0,[a,b],0⟩=true)∧(∀ as,gu ⟨K,[],0,as,0⟩=true)∧pE (K,decide ((0:Int) < 0))=true:=by
 have:K=6∨K=7∨K=8∨K=9∨K=10∨K=11∨K=12∨K=13∨K=14∨K=15∨K=16∨K=17∨K=18:=by omega
 rcases this with rfl | rfl | rfl | rfl | rfl | rfl | rfl | rfl | rfl | rfl | rfl | rfl | rfl <;> exact⟨by decide,by decide,by decide,fun _ _=>rfl,fun _=>rfl,by decide⟩
omit hT in
theorem jc {ns ns':List Nd}{a b:Nat}{as:List Int}{p:Nat × Bool→Bool}(h:Fo ns a b as)(hb:b≤ns.length)(hp:∀ c ∈ as,p (dB ns c)=true)(k:∃ t,ns'=ns ++ t):∀ c ∈ as,p (dB ns' c)=true:=by
 obtain⟨t,rfl⟩:=k;intro c hc
 have:=h.ids c hc
 rw [Aa t (by omega) (by omega)];exact hp c hc
omit hT in
theorem Grown.yD {lo:Nat}{ns0 ns ns':List Nd}{p:Nat × Bool→Bool}{as:List Int}(g:Grown lo ns0 p false as ns)(k:∃ t,ns'=ns ++ t):p (dB ns' (hd as))=true:=by
 refine jc g.ou (aaJ _) (fun c hc=>?_) k _ (List.mem_singleton.2 rfl);rw [List.mem_singleton.1 hc];exact g.all1
omit hT in
theorem oH {p:Int→Prop}{a b:Int}(h:p a)(k:p b):∀ c ∈ [a,b],p c:=by
 intro c hc;rcases List.mem_cons.1 hc with rfl | hc
 ·exact h
 ·rw [List.mem_singleton.1 hc];exact k
omit hT in
theorem fU {p:Int→Prop}{a:Int}(h:p a):∀ c ∈ [a],p c:=by
 intro c hc;rw [List.mem_singleton.1 hc];exact h
theorem Df:∀ (m:Nat) (j:Job) (k:Nat) (ns:List Nd) (lo:Nat),jN ns→Wf ns→Fo ns lo ns.length j.args→(∀ a ∈ j.args,j.p (dB ns a)=true)→(∀ e acc,j=.eu e acc→acc ≠ [])→Seg lo ns j.p j.many (run l en m j k ns)
 | 0,_,_,_,_,_,_,_,_,_=>by rw [run];exact Seg.none
 | m+1,j,k,ns,lo,ha,hw,hf,hp,hne=>by
  have ih:=fun j k ns lo ha hw hf hp hne=>Df m j k ns lo ha hw hf hp hne
  have no:∀ j k ns,jN ns→Wf ns→j.args=[]→(∀ e acc,j=.eu e acc→acc ≠ [])→Seg ns.length ns j.p j.many (run l en m j k ns):=fun j k ns ha hw hj hne=>ih j k ns ns.length ha hw (by rw [hj];exact .nil _) (by rw [hj];intro a h;cases h) hne
  cases j with
  | expr =>
   obtain rfl:=hf.nil_eq rfl;rw [run];split
   ·rename_i e
    have h1:=aP e (by simp);refine (no .expr (k+1) ns ha hw rfl (by simp)).thn fun a k1 aJ _ g=>Seg.need fun _=>?_
    refine (no .expr (k1+1) aJ g.ok g.wf rfl (by simp)).thn fun b k2 fF _ q=>Seg.need fun _=>?_
    refine (no .expr (k2+1) fF q.ok q.wf rfl (by simp)).thn fun c k3 uK _ r=>?_
    have hall:∀ x ∈ [hd a,hd b,hd c],pE (dB uK x)=true:=by
     intro x hx;rcases List.mem_cons.1 hx with rfl | hx
     ·exact g.yD (dK q.more r.more)
     ·exact oH (p:=fun x=>pE (dB uK x)=true) (q.yD r.more) r.all1 x hx
    exact Seg.add _ r.ok r.wf (dK g.more (dK q.more r.more)) (((g.ou.more (dK q.more r.more)).append (q.ou.more r.more)).append r.ou)
     (fV hT 19 [] 0 _ k (by decide) rfl (bq rfl).1 (bq rfl).2 rfl rfl h1 hall) rfl
   ·split
    ·rename_i e
     have h1:=aP e (by simp);refine Seg.bI fun e1=>Seg.need fun _=>?_
     refine (no .expr (k+3) ns ha hw rfl (by simp)).thn fun a k1 aJ _ g=>Seg.need fun _=>?_
     refine (no .expr (k1+1) aJ g.ok g.wf rfl (by simp)).thn fun b k2 fF _ q=>?_
     exact Seg.add _ q.ok q.wf (dK g.more q.more) ((g.ou.more q.more).append q.ou)
      (fV hT 20 _ 0 _ k (by decide) rfl (bg hT rfl e1).1 (bg hT rfl e1).2 rfl rfl h1 (oH (p:=fun x=>pE (dB fF x)=true) (g.yD q.more) q.all1)) rfl
    ·exact no (.lv .or) k ns ha hw rfl (by simp)
  | lv v =>
   obtain rfl:=hf.nil_eq rfl
   have go:∀ v,(v=.or∨v=.and∨v=.cmp∨v=.sum∨v=.term)→Seg ns.length ns pE false (Mist.thn (run l en m (.lv v.below) k ns) fun a k1 aJ=>run l en m (.tail v (hd a)) k1 aJ):=by
    intro v hv;refine Seg.thn (p1:=pE) (many1:=false) (no (.lv v.below) k ns ha hw rfl (by simp)) fun a k1 aJ _ g=>?_
    exact (ih (.tail v (hd a)) k1 aJ ns.length g.ok g.wf g.ou (fU (p:=fun x=>pE (dB aJ x)=true) g.all1) (by simp)).on g.more
   cases v with
   | not =>
    rw [run];split
    ·rename_i e
     have h1:=aP e (by simp);refine (no (.lv .not) (k+1) ns ha hw rfl (by simp)).thn fun a k1 aJ _ g=>?_
     exact Seg.add _ g.ok g.wf g.more g.ou (fV hT 5 [] 0 _ k (by decide) rfl (bq rfl).1 (bq rfl).2 rfl rfl h1 (fU (p:=fun x=>pE (dB aJ x)=true) g.all1)) rfl
    ·exact no (.lv .cmp) k ns ha hw rfl (by simp)
   | unary =>
    rw [run];split
    ·rename_i e
     have h1:=aP e (by simp);refine (no (.lv .unary) (k+1) ns ha hw rfl (by simp)).thn fun a k1 aJ _ g=>?_
     exact Seg.add _ g.ok g.wf g.more g.ou (fV hT 4 [] 0 _ k (by decide) rfl (bq rfl).1 (bq rfl).2 rfl rfl h1 (fU (p:=fun x=>pE (dB aJ x)=true) g.all1)) rfl
    ·exact no .post k ns ha hw rfl (by simp)
   | or=>rw [run] <;> first | exact go _ (by simp) | simp
   | and=>rw [run] <;> first | exact go _ (by simp) | simp
   | cmp=>rw [run] <;> first | exact go _ (by simp) | simp
   | sum=>rw [run] <;> first | exact go _ (by simp) | simp
   | term=>rw [run] <;> first | exact go _ (by simp) | simp
  | tail v a =>
   have hf:Fo ns lo ns.length [a]:=hf;have hp:∀ x ∈ [a],pE (dB ns x)=true:=hp
   show Seg lo ns pE false _
   rw [run];split
   ·exact Seg.give ha hw hf hp (by simp) (fun _=>rfl)
   ·rename_i e
    obtain⟨h1,_⟩:=qo e;obtain⟨f1,f2,f3,f4,f5,f6⟩:=Ij (Af e);refine Seg.thn (p1:=pE) (many1:=false) (no (.lv v.below) (k+1) ns ha hw rfl (by simp)) fun b k1 aJ _ g=>?_
    have G7:=oH (p:=fun x=>pE (dB aJ x)=true) (jc hf (aaJ _) hp g.more a (List.mem_singleton.2 rfl)) g.all1;refine Seg.thn (Seg.add (lo:=lo) (p:=pE) (many:=false) ⟨fB v (tx l k),[],0,[a,hd b],pl l en k⟩ g.ok g.wf g.more ((hf.more g.more).append g.ou) (fV hT _ [] 0 _ k f1 f2 (bq f3).1 (bq f3).2 (f4 _ _) (f5 _) h1 G7) f6) fun c k2 fF _ q=>?_
    split
    ·exact (Seg.give q.ok q.wf q.ou (fU (p:=fun x=>pE (dB fF x)=true) q.all1) (by simp) (fun _=>rfl)).on q.more
    ·exact (ih (.tail v (hd c)) k2 fF lo q.ok q.wf q.ou (fU (p:=fun x=>pE (dB fF x)=true) q.all1) (by simp)).on q.more
  | post =>
   obtain rfl:=hf.nil_eq rfl;rw [run];refine Seg.thn (p1:=pE) (many1:=false) (no .atom k ns ha hw rfl (by simp)) fun a k1 aJ _ g=>?_
   exact (ih (.iq (hd a)) k1 aJ ns.length g.ok g.wf g.ou (fU (p:=fun x=>pE (dB aJ x)=true) g.all1) (by simp)).on g.more
  | iq a =>
   have hf:Fo ns lo ns.length [a]:=hf;have hp:∀ x ∈ [a],pE (dB ns x)=true:=hp
   show Seg lo ns pE false _
   rw [run];split
   ·rename_i e
    have h1:=aP e (by simp);refine Seg.bI fun e1=>?_
    refine Seg.thn (Seg.add (lo:=lo) (p:=pE) (many:=false) ⟨22,tx l (k+1),0,[a],pl l en k⟩ ha hw (bQ _) hf (fV hT 22 _ 0 _ k (by decide) rfl (bg hT rfl e1).1 (bg hT rfl e1).2 rfl rfl h1 hp) rfl) fun c k2 fF _ q=>?_
    exact (ih (.iq (hd c)) k2 fF lo q.ok q.wf q.ou (fU (p:=fun x=>pE (dB fF x)=true) q.all1) (by simp)).on q.more
   ·split
    ·rename_i e
     have h1:=aP e (by simp);refine Seg.thn (p1:=pE) (many1:=false) (no .expr (k+1) ns ha hw rfl (by simp)) fun b k1 aJ _ g=>Seg.need fun _=>?_
     have G7:=oH (p:=fun x=>pE (dB aJ x)=true) (jc hf (aaJ _) hp g.more a (List.mem_singleton.2 rfl)) g.all1;refine Seg.thn (Seg.add (lo:=lo) (p:=pE) (many:=false) ⟨23,[],0,[a,hd b],pl l en k⟩ g.ok g.wf g.more ((hf.more g.more).append g.ou) (fV hT 23 [] 0 _ k (by decide) rfl (bq rfl).1 (bq rfl).2 rfl rfl h1 G7) rfl) fun c k2 fF _ q=>?_
     exact (ih (.iq (hd c)) k2 fF lo q.ok q.wf q.ou (fU (p:=fun x=>pE (dB fF x)=true) q.all1) (by simp)).on q.more
    ·exact Seg.give ha hw hf hp (by simp) (fun _=>rfl)
  | atom =>
   obtain rfl:=hf.nil_eq rfl;rw [run];split
   ·rename_i e
    have h1:=fA e (by simp);have h2:=Ad hT e;refine Seg.add _ ha hw (bQ _) (.nil _) (jv hT 1 [] _ [] k rfl (bq rfl).1 (bq rfl).2 rfl ?_ h1 rfl) ?_
    ·unfold gu within;simp;omega
    ·show pE (1,decide (((numOf (tx l k):Nat):Int) < 0))=true
     rw [show decide (((numOf (tx l k):Nat):Int) < 0)=false by simp];rfl
   split
   ·rename_i e
    exact Seg.add _ ha hw (bQ _) (.nil _) (jv hT 2 [] 1 [] k rfl (bq rfl).1 (bq rfl).2 rfl rfl (aP e (by simp)) rfl) rfl
   split
   ·rename_i e
    exact Seg.add _ ha hw (bQ _) (.nil _) (jv hT 2 [] 0 [] k rfl (bq rfl).1 (bq rfl).2 rfl rfl (aP e (by simp)) rfl) rfl
   split
   ·refine Seg.thn (p1:=pE) (many1:=false) (no .expr (k+1) ns ha hw rfl (by simp)) fun a k1 aJ _ g=>Seg.need fun _=>?_
    exact (Seg.give g.ok g.wf g.ou (fU (p:=fun x=>pE (dB aJ x)=true) g.all1) (by simp) (fun _=>rfl)).on g.more
   split
   ·rename_i e
    have h1:=aP e (by simp);refine Seg.thn (p1:=pE) (many1:=true) (no (.list .expr) (k+1) ns ha hw rfl (by simp)) fun as k1 aJ _ g=>Seg.need fun _=>?_
    have hm:jC ⟨26,[],0,as,0⟩=true:=by
     show decide (1≤as.length)=true
     have:=List.length_pos_iff.2 g.ne
     simp;omega
    exact Seg.add _ g.ok g.wf g.more g.fo (fV hT 26 [] 0 _ k (by decide) rfl (bq rfl).1 (bq rfl).2 hm rfl h1 g.all) rfl
   refine Seg.bI fun e0=>?_
   have h0:=fA e0 (by simp);split
   ·split
    ·exact Seg.add _ ha hw (bQ _) (.nil _) (fV hT 21 _ 0 [] k (by decide) rfl (bg hT rfl e0).1 (bg hT rfl e0).2 rfl rfl h0 (fun a h=>by cases h)) rfl
    ·refine Seg.thn (p1:=pE) (many1:=true) (no (.list .expr) (k+2) ns ha hw rfl (by simp)) fun as k1 aJ _ g=>Seg.need fun _=>?_
     exact Seg.add _ g.ok g.wf g.more g.fo (fV hT 21 _ 0 _ k (by decide) rfl (bg hT rfl e0).1 (bg hT rfl e0).2 rfl rfl h0 g.all) rfl
   split
   ·refine Seg.thn (p1:=fun q=>q.1 == 25) (many1:=true) (no (.list .put) (k+2) ns ha hw rfl (by simp)) fun as k1 aJ _ g=>Seg.need fun _=>?_
    have hm:jC ⟨24,tx l k,0,as,0⟩=true:=by
     show decide (1≤as.length)=true
     have:=List.length_pos_iff.2 g.ne
     simp;omega
    refine Seg.add _ g.ok g.wf g.more g.fo (jv hT 24 _ 0 _ k rfl (bg hT rfl e0).1 (bg hT rfl e0).2 hm rfl h0 (jT (p:=fun q=>q.1 == 25) (fun i q hq=>?_) as 0 g.all)) rfl;have hq:q.1=25:=by simpa using hq
    unfold ru mJ;rw [hq];rfl
   ·exact Seg.add _ ha hw (bQ _) (.nil _) (fV hT 3 _ 0 [] k (by decide) rfl (bg hT rfl e0).1 (bg hT rfl e0).2 rfl rfl h0 (fun a h=>by cases h)) rfl
  | put =>
   obtain rfl:=hf.nil_eq rfl;rw [run];refine Seg.bI fun e0=>Seg.need fun _=>?_
   have h0:=fA e0 (by simp);refine Seg.thn (p1:=pE) (many1:=false) (no .expr (k+2) ns ha hw rfl (by simp)) fun a k1 aJ _ g=>?_
   exact Seg.add _ g.ok g.wf g.more g.ou (fV hT 25 _ 0 _ k (by decide) rfl (bg hT rfl e0).1 (bg hT rfl e0).2 rfl rfl h0 (fU (p:=fun x=>pE (dB aJ x)=true) g.all1)) rfl
  | param =>
   obtain rfl:=hf.nil_eq rfl;rw [run];refine Seg.bI fun e0=>Seg.need fun _=>?_
   have h0:=fA e0 (by simp);refine Seg.thn (p1:=fun q=>iH q.1) (many1:=false) (no .typ (k+2) ns ha hw rfl (by simp)) fun a k1 aJ _ g=>?_
   refine Seg.add _ g.ok g.wf g.more g.ou (jv hT 34 _ 0 _ k rfl (bg hT rfl e0).1 (bg hT rfl e0).2 rfl rfl h0 (jT (p:=fun q=>iH q.1) (fun i q hq=>?_) [hd a] 0 (fU (p:=fun x=>iH (dB aJ x).1=true) g.all1))) rfl
   have hq1:(q.1 == 1)=false:=by
    unfold iH at hq;simp at hq ⊢;omega
   unfold ru mJ;rw [hq1];simp [hq]
  | typ =>
   obtain rfl:=hf.nil_eq rfl;rw [run];split
   ·rename_i e
    exact Seg.add _ ha hw (bQ _) (.nil _) (jv hT 30 [] 0 [] k rfl (bq rfl).1 (bq rfl).2 rfl rfl (aP e (by simp)) rfl) rfl
   split
   ·rename_i e
    exact Seg.add _ ha hw (bQ _) (.nil _) (jv hT 31 [] 0 [] k rfl (bq rfl).1 (bq rfl).2 rfl rfl (aP e (by simp)) rfl) rfl
   split
   ·rename_i e
    have h1:=aP e (by simp);refine Seg.thn (p1:=fun q=>iH q.1) (many1:=false) (no .typ (k+1) ns ha hw rfl (by simp)) fun a k1 aJ _ g=>Seg.need fun _=>Seg.bI fun _=>Seg.need fun _=>?_
    refine Seg.add _ g.ok g.wf g.more g.ou (jv hT 33 [] _ _ k rfl (bq rfl).1 (bq rfl).2 rfl rfl h1 (jT (p:=fun q=>iH q.1) (fun i q hq=>?_) [hd a] 0 (fU (p:=fun x=>iH (dB aJ x).1=true) g.all1))) rfl
    have hq1:(q.1 == 1)=false:=by
     unfold iH at hq;simp at hq ⊢;omega
    unfold ru mJ;rw [hq1];simp [hq]
   ·refine Seg.bI fun e0=>?_
    have h0:=fA e0 (by simp);exact Seg.add _ ha hw (bQ _) (.nil _) (jv hT 32 _ 0 [] k rfl (bg hT rfl e0).1 (bg hT rfl e0).2 rfl rfl h0 rfl) rfl
  | list e =>
   obtain rfl:=hf.nil_eq rfl;rw [run];have hj:e.job.p=e.p∧e.job.many=false∧e.job.args=[]:=by cases e <;> exact⟨rfl,rfl,rfl⟩
   have h1:=no e.job k ns ha hw hj.2.2 (by cases e <;> simp [El.job]);rw [hj.1,hj.2.1] at h1
   refine Seg.thn h1 fun a k1 aJ _ g=>?_
   exact (ih (.eu e [hd a]) k1 aJ ns.length g.ok g.wf g.ou (fU (p:=fun x=>e.p (dB aJ x)=true) g.all1) (by intro _ _ h;injection h with _ h;rw [← h];simp)).on g.more
  | eu e acc =>
   have hf:Fo ns lo ns.length acc:=hf;have hp:∀ x ∈ acc,e.p (dB ns x)=true:=hp
   show Seg lo ns e.p true _
   rw [run];split
   ·have hj:e.job.p=e.p∧e.job.many=false∧e.job.args=[]:=by cases e <;> exact⟨rfl,rfl,rfl⟩
    have h1:=no e.job (k+1) ns ha hw hj.2.2 (by cases e <;> simp [El.job]);rw [hj.1,hj.2.1] at h1
    refine Seg.thn h1 fun a k1 aJ _ g=>?_
    refine (ih (.eu e (acc ++ [hd a])) k1 aJ lo g.ok g.wf ((hf.more g.more).append g.ou) (fun x hx=>?_) (by intro _ _ h;injection h with _ h;rw [← h];simp)).on g.more;rcases List.mem_append.1 hx with hx | hx
    ·exact jc hf (aaJ _) hp g.more x hx
    ·rw [List.mem_singleton.1 hx];exact g.all1
   ·exact Seg.give ha hw hf hp (hne e acc rfl) (fun h=>by cases h)
end
end Mist
namespace Mist
end Mist
namespace Mist
end Mist
namespace Mist
def pI (q:Nat × Bool):Bool:=eP q.1
theorem Jb {q:Nat × Bool}(h:iH q.1=true):(q.1 == 1)=false:=by
 unfold iH at h;simp at h ⊢;omega
theorem vg {n:Nd}(hk:n.kind=42):∀ (qs:List (Nat × Bool)) (i:Nat) (q1 q2:Nat × Bool),i+qs.length+2=n.kids.length→(∀ q ∈ qs,(q.1 == 34)=true)→iH q1.1=true→pE q2=true→oJ n i (qs ++ [q1] ++ [q2])=true
 | [],i,q1,q2,hl,_,h1,h2=>by
  have a1:¬ i+1=n.kids.length:=by simp at hl;omega
  have a2:i+2=n.kids.length:=by simpa using hl
  have b1:i+1+1=n.kids.length:=by omega
  unfold pE at h2
  simp only [aaS] at h2
  have h3:=h2.2;simp only [List.nil_append,List.cons_append,oJ,ru,mJ,hk,Jb h1,if_neg a1,if_pos a2,if_pos b1,h1,h2.1]
  revert h3
  cases (q2.1 == 1) <;> cases q2.2 <;> simp
 | q :: r,i,q1,q2,hl,hq,h1,h2=>by
  have a1:¬ i+1=n.kids.length:=by simp at hl;omega
  have a2:¬ i+2=n.kids.length:=by simp at hl;omega
  have h0:=hq q (List.mem_cons_self ..);have h9:q.1=34:=by simpa using h0
  have ih:=vg hk r (i+1) q1 q2 (by simp at hl;omega) (fun x hx=>hq x (List.mem_cons_of_mem _ hx)) h1 h2
  show (ru n i q && oJ n (i+1) (r ++ [q1] ++ [q2]))=true
  rw [ih];simp [ru,mJ,hk,if_neg a1,if_neg a2,h9]
section
variable {l:List Tok} {en:Int} (hT:rF l)
include hT
theorem kF (n:Nat)(j:Job)(k:Nat)(ns:List Nd)(ha:jN ns)(hw:Wf ns)(hj:j.args=[])(hne:∀ e acc,j=.eu e acc→acc ≠ []):Seg ns.length ns j.p j.many (run l en n j k ns) :=
 Df hT n j k ns ns.length ha hw (by rw [hj];exact .nil _) (by rw [hj];intro a h;cases h) hne
theorem Cj (k:Nat)(ns:List Nd)(ha:jN ns)(hw:Wf ns):Seg ns.length ns (fun q=>q.1 == 1) false (sN l en k ns):=by
 unfold sN;split
 ·rename_i e
  have h1:=aP e (by simp);refine Seg.bI fun e1=>?_
  have h2:=Ad hT e1;exact Seg.add _ ha hw (bQ _) (.nil _) (jv hT 1 [] _ [] k rfl (bq rfl).1 (bq rfl).2 rfl (by simp [gu,within];omega) h1 rfl) rfl
 ·refine Seg.bI fun e1=>?_
  have h1:=fA e1 (by simp);have h2:=Ad hT e1;exact Seg.add _ ha hw (bQ _) (.nil _) (jv hT 1 [] _ [] k rfl (bq rfl).1 (bq rfl).2 rfl (by simp [gu,within];omega) h1 rfl) rfl
theorem qB {n k k1 lo:Nat}{ns0 aJ:List Nd}{ps:List Int}(ha:jN aJ)(hw:Wf aJ)(hm:∃ t,aJ=ns0 ++ t)(hf:Fo aJ lo aJ.length ps)(hp:∀ a ∈ ps,((dB aJ a).1 == 34)=true)(e1:(tg l (k+1)).kind=1)(hk:k < l.length):Seg lo ns0 pI false (mg l en n k ps k1 aJ):=by
 unfold mg;refine Seg.need fun _=>Seg.need fun _=>?_
 refine Seg.thn (kF hT n .typ _ aJ ha hw rfl (by simp)) fun t k2 fF _ g=>?_
 have rest:∀ (u:Int) (k3:Nat),0≤u→Seg lo ns0 pI false (kU l en n k ps (hd t) u k3 fF):=by
  intro u k3 hu;unfold kU;refine Seg.need fun _=>?_
  refine Seg.thn (kF hT n .expr _ fF g.ok g.wf rfl (by simp)) fun b k4 MG _ q=>?_
  refine Seg.add _ q.ok q.wf (dK hm (dK g.more q.more)) (((hf.more (dK g.more q.more)).append (g.ou.more q.more)).append q.ou) ?_ rfl;refine jv hT 42 _ u _ k rfl (bg hT rfl e1).1 (bg hT rfl e1).2 (by simp [jC]) (by simp [gu,hu]) hk ?_;rw [List.map_append,List.map_append];refine vg rfl _ 0 _ _ (by simp) (fun x hx=>?_) (g.yD q.more) q.all1;obtain⟨a,ha9,rfl⟩:=List.mem_map.1 hx;exact jc (p:=fun q=>q.1 == 34) hf (aaJ _) hp (dK g.more q.more) a ha9
 split
 ·split
  ·exact Seg.bad
  ·exact Seg.bI fun _=>rest _ _ (Int.natCast_nonneg _)
 ·exact rest 0 _ (Int.le_refl _)
theorem LP (n k:Nat)(ns:List Nd)(ha:jN ns)(hw:Wf ns)(hk:k < l.length):Seg ns.length ns pI false (wT l en n k ns):=by
 unfold wT;split
 ·exact Seg.bad
 ·rename_i h0
  have h8:gy (tx l (k+1))≤8:=by unfold gy;(repeat' split) <;> omega
  split
  ·exact Seg.add _ ha hw (bQ _) (.nil _) (jv hT 46 [] 7 [] k rfl (bq rfl).1 (bq rfl).2 rfl rfl hk rfl) rfl
  ·rename_i h7
   split
   ·refine Seg.thn (kF hT n (.list .expr) _ ns ha hw rfl (by simp)) fun a k1 aJ _ g=>?_
    have hl:1≤a.length:=by
     cases a with
     | nil=>exact absurd rfl g.ne
     | cons x r=>simp
    exact Seg.add _ g.ok g.wf g.more g.fo (fV hT 46 [] 8 _ k (by decide) rfl (bq rfl).1 (bq rfl).2 (by simp [jC,hl]) rfl hk g.all) rfl
   ·rename_i h9
    obtain⟨Q,hQ⟩:∃ Q,Q=gy (tx l (k+1)):=⟨_,rfl⟩;rw [← hQ] at h0 h7 h8 h9 ⊢
    refine Seg.thn (kF hT n .expr _ ns ha hw rfl (by simp)) fun a k1 aJ _ g=>?_
    refine Seg.add _ g.ok g.wf g.more g.ou (fV hT 46 [] _ _ k (by decide) rfl (bq rfl).1 (bq rfl).2 ?_ ?_ hk (fU (p:=fun x=>pE (dB aJ x)=true) g.all1)) rfl
    ·have i7:¬ (Q:Int)=7:=by omega
     have i8:¬ (Q:Int)=8:=by omega
     simp [jC,i7,i8]
    ·simp [gu,within];omega
theorem Hu (n k:Nat)(ns:List Nd)(ha:jN ns)(hw:Wf ns):Seg ns.length ns pI false (item l en n k ns):=by
 unfold item;split
 case isFalse=>exact Seg.bad
 rename_i ek
 have hk:=fA ek (by simp);split
 case h_2=>exact Seg.bad
 rename_i i _
 cases i
 ·
  show Seg ns.length ns pI false (bI l 1 (k+1) _)
  refine Seg.bI fun e1=>Seg.need fun _=>?_
  refine Seg.thn (Cj hT _ ns ha hw) fun a k1 aJ _ g=>Seg.need fun _=>?_
  refine Seg.thn (Cj hT _ aJ g.ok g.wf) fun b k2 fF _ q=>?_
  refine Seg.add _ q.ok q.wf (dK g.more q.more) ((g.ou.more q.more).append q.ou) (jv hT 40 _ 0 _ k rfl (bg hT rfl e1).1 (bg hT rfl e1).2 rfl rfl hk ?_) rfl;refine jT (p:=fun q=>q.1 == 1) (fun i q hq=>?_) _ 0 (oH (p:=fun x=>((dB fF x).1 == 1)=true) (g.yD (p:=fun q=>q.1 == 1) q.more) q.all1);have h9:q.1=1:=by simpa using hq
  simp [ru,mJ,h9]
 ·
  show Seg ns.length ns pI false (bI l 1 (k+1) _)
  refine Seg.bI fun e1=>Seg.need fun _=>Seg.need fun _=>?_
  refine Seg.thn (kF hT n (.list .param) _ ns ha hw rfl (by simp)) fun a k1 aJ _ g=>Seg.need fun _=>?_
  have hl:1≤a.length:=by
   cases a with
   | nil=>exact absurd rfl g.ne
   | cons x r=>simp
  refine Seg.add _ g.ok g.wf g.more g.fo (jv hT 41 _ 0 _ k rfl (bg hT rfl e1).1 (bg hT rfl e1).2 (by simp [jC,hl]) rfl hk ?_) rfl;refine jT (p:=fun q=>q.1 == 34) (fun i q hq=>?_) _ 0 g.all;have h9:q.1=34:=by simpa using hq
  simp [ru,mJ,h9]
 ·
  show Seg ns.length ns pI false (bI l 1 (k+1) _)
  refine Seg.bI fun e1=>Seg.need fun _=>?_
  split
  ·exact qB hT ha hw (bQ _) (.nil _) (fun a h=>by cases h) e1 hk
  ·refine Seg.thn (kF hT n (.list .param) _ ns ha hw rfl (by simp)) fun a k1 aJ _ g=>?_
   exact qB hT g.ok g.wf g.more g.fo g.all e1 hk
 ·
  show Seg ns.length ns pI false (bI l 1 (k+1) _)
  refine Seg.bI fun e1=>Seg.need fun _=>?_
  refine Seg.thn (kF hT n .expr _ ns ha hw rfl (by simp)) fun a k1 aJ _ g=>?_
  exact Seg.add _ g.ok g.wf g.more g.ou (fV hT 43 _ 0 _ k (by decide) rfl (bg hT rfl e1).1 (bg hT rfl e1).2 rfl rfl hk (fU (p:=fun x=>pE (dB aJ x)=true) g.all1)) rfl
 ·
  show Seg ns.length ns pI false (bI l 1 (k+1) _)
  refine Seg.bI fun e1=>Seg.need fun _=>?_
  refine Seg.thn (kF hT n .expr _ ns ha hw rfl (by simp)) fun a k1 aJ _ g=>?_
  exact Seg.add _ g.ok g.wf g.more g.ou (fV hT 44 _ 0 _ k (by decide) rfl (bg hT rfl e1).1 (bg hT rfl e1).2 rfl rfl hk (fU (p:=fun x=>pE (dB aJ x)=true) g.all1)) rfl
 ·
  show Seg ns.length ns pI false (bI l 1 (k+1) _)
  refine Seg.bI fun e1=>?_
  exact Seg.add _ ha hw (bQ _) (.nil _) (jv hT 45 _ 0 [] k rfl (bg hT rfl e1).1 (bg hT rfl e1).2 rfl rfl hk rfl) rfl
 ·exact LP hT n k ns ha hw hk
theorem vE (n:Nat):∀ (m k:Nat) (ns:List Nd) (its lV:List Int) (k':Nat) (ns':List Nd),jN ns→Wf ns→Fo ns 0 ns.length its→(∀ a ∈ its,pI (dB ns a)=true)→prog l en n m k ns its=some (.ok lV k' ns') →
  jN ns'∧Wf ns'∧Fo ns' 0 ns'.length lV∧∀ a ∈ lV,pI (dB ns' a)=true
 | 0,_,_,_,_,_,_,_,_,_,_,h=>by cases h
 | m+1,k,ns,its,lV,k',ns',ha,hw,hf,hp,h=>by
  rw [prog] at h
  split at h
  ·have hs:=Hu (en:=en) hT n k ns ha hw
   cases hi:item l en n k ns with
   | none=>rw [hi] at h;cases h
   | some r =>
    rw [hi] at h
    cases r with
    | bad k1=>injection h with h;cases h
    | ok a k1 aJ =>
     have g:=hs a k1 aJ hi;have h:need l [59] k1 (prog l en n m (k1+1) aJ (its ++ [hd a]))=some (.ok lV k' ns'):=h;unfold need at h
     split at h
     ·refine vE n m (k1+1) aJ (its ++ [hd a]) lV k' ns' g.ok g.wf ((hf.more g.more).append g.ou) (fun x hx=>?_) h;rcases List.mem_append.1 hx with hx | hx
      ·exact jc hf (aaJ _) hp g.more x hx
      ·rw [List.mem_singleton.1 hx];exact g.all1
     ·injection h with h;cases h
  ·injection h with h
   injection h with h1 h2 h3
   subst h1;subst h2;subst h3;exact⟨ha,hw,hf,hp⟩
end
end Mist
namespace Mist
theorem qL (s:Bs):∀ (l:List Tok) (a:Nat),Placed s a l→∀ t ∈ l,Mist.kind t.text=t.kind∧0≤t.at_∧t.at_≤(s.length:Int)∧t.text.length≤s.length
 | [],_,_,t,ht=>by cases ht
 | x :: r,a,h,t,ht=>by
  obtain⟨h1,h2,h3,h4,h5⟩:=h;rcases List.mem_cons.1 ht with rfl | ht
  ·have h6:(first (s.drop a)).1 ≠ 0:=by rw [h3];exact h4
   have h7:=uH _ h6;have h8:=(kr _ h6).2;rw [h3] at h7 h8
   rw [List.length_drop] at h8
   exact⟨h7,by omega,by omega,by simp only at h8;omega⟩
  ·exact qL s r _ h5 t ht
theorem rX {s:Bs}{l:List Tok}(h:Mist.read s=(l,0,0)):rF l∧(∀ t ∈ l,t.text.length≤2000)∧s.length≤2000:=by
 have h0:(Mist.read s).2.2=0:=by rw [h]
 have hp:=yL s h0;rw [h] at hp
 have hs:s.length≤2000:=by
  rcases Nat.lt_or_ge 2000 s.length with h1 | h1
  ·exfalso
   have hc:check s=(2000,5):=by unfold check;rw [if_pos h1]
   have:Mist.read s=([],2000,5):=by unfold Mist.read;rw [hc];rfl
   rw [this] at h0
   cases h0
  ·exact h1
 have hg:=qL s l _ hp;exact⟨⟨fun t ht=>(hg t ht).1,fun t ht=>⟨(hg t ht).2.1,by have:=(hg t ht).2.2.1;omega⟩⟩,fun t ht=>Nat.le_trans (hg t ht).2.2.2 hs,hs⟩
theorem Fo.few {ns:List Nd}{a b:Nat}{as:List Int}(h:Fo ns a b as):as.length+a≤b:=by
 induction h with
 | nil=>simp
 | snoc h k e i j=>rw [aaO,aaT];have:=Fo.le k;omega
theorem I5 {t:Tr}{x:Nd}(hm:jC x=true):sized t x=gD t x:=by
 unfold sized gD;by_cases rT:x.kind=40
 ·rw [if_pos rT,if_pos rT];rw [aaI];simp [within];omega
 rw [if_neg rT,if_neg rT];by_cases h46:x.kind=46
 ·simp only [h46];simp [jC,h46] at hm
  by_cases h7:x.n=7
  ·simp [h7] at hm;simp [h7,hm]
  ·by_cases h8:x.n=8
   ·simp [h8]
   ·simp [h7,h8] at hm;simp [hm]
 ·simp [h46]
theorem yJ {T:Tr}(hA:jN T.nodes)(hW:Wf T.nodes)(hF:Fo T.nodes 0 T.nodes.length T.items){i:Nat}{x:Nd}(hx:T.nodes[i]? = some x) :
  x.kids.length≤i∧sized T x=gD T x∧(x.kind=40→∃ k0 k1:Nat,x.kids=[(k0:Int),(k1:Int)]∧k0 < T.nodes.length∧k1 < T.nodes.length∧(-9999≤(nd T k0).n∧(nd T k0).n≤9999)∧(-9999≤(nd T k1).n∧(nd T k1).n≤9999)):=by
 have hi:i < T.nodes.length:=(aaE.1 hx).1;have hok:=hA i x hx;unfold uP okB at hok
 simp only [aaS] at hok
 obtain⟨⟨⟨⟨⟨⟨_,_⟩,_⟩,hm⟩,_⟩,_⟩,hk⟩:=hok
 refine⟨?_,I5 hm,fun rT=>?_⟩
 ·obtain⟨n,m,hn,_,hf⟩:=hF.each i (aaL _) hi;obtain rfl:=aaP (hn.symm.trans hx)
  have:=hf.few
  omega
 ·have h2:x.kids.length=2:=by simpa [jC,rT] using hm
  obtain⟨a,b,hab⟩:∃ a b,x.kids=[a,b]:=by
   rcases hc:x.kids with _ | ⟨a,_ | ⟨b,_ | ⟨c,r⟩⟩⟩
   ·rw [hc] at h2;simp at h2
   ·rw [hc] at h2;simp at h2
   ·exact⟨a,b,rfl⟩
   ·rw [hc] at h2;simp at h2
  have ha:=hW i x hx a (by rw [hab];simp);have hb:=hW i x hx b (by rw [hab];simp);rw [hab] at hk
  simp only [List.map_cons,List.map_nil,oJ,ru,mJ,rT,aaS] at hk
  have num:∀ c:Int,0≤c→c < (i:Int)→(dB T.nodes c).1=1→-9999≤(nd T c.toNat).n∧(nd T c.toNat).n≤9999:=by
   intro c h0 h1 hc;have hl:c.toNat < T.nodes.length:=by omega
   have hk1:(nd T c.toNat).kind=1:=hc;have hok:=hA c.toNat _ (Cw hl);unfold uP okB at hok
   simp only [aaS] at hok
   have tL:=hok.1.1.2
   simpa [gu,hk1,within] using tL
  refine⟨a.toNat,b.toNat,by rw [hab,Int.toNat_of_nonneg ha.1,Int.toNat_of_nonneg hb.1],by omega,by omega,num a ha.1 ha.2 ?_,num b hb.1 hb.2 ?_⟩
  ·have:=hk.1.1;simpa using this
  ·have:=hk.2.1;simpa using this
end Mist
namespace Mist
end Mist
