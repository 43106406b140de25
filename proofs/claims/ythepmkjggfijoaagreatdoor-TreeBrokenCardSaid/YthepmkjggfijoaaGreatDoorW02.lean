/-
  A part of the proof.
-/
import Derived.Test.YthepmkjggfijoaaGreatDoorSA
import Derived.Lib.AtoiTie
import Derived.Lib.ItoaNum
import Derived.Test.YthepmkjggfijoaaGreatDoorW01
set_option linter.all false
set_option maxRecDepth 100000
namespace Mist
section
variable (s:Bs) (h0:¬ s.length=0)
include h0
end
end Mist
namespace Mist
end Mist
namespace Mist
end Mist
namespace Mist
theorem Ct (s:Bs)(h:kind s ≠ 0):s.length≤12∧0 < s.length:=by
 have a:(first s).2=s∧(first s).1 ≠ 0:=by
  unfold kind at h
  split at h
  ·exact⟨by assumption,h⟩
  ·exact absurd rfl h
 obtain⟨h1,h2⟩:=a;have e:=kr s h2;rw [h1] at e
 refine⟨?_,e.1⟩
 by_cases h0:s.length=0
 ·omega
 by_cases c:dP (gt s 0)=true
 ·by_cases a:hasB keywords (s.take (aV dI s))=true
  ·rw [jI s h0 c a] at h1
   simp only at h1
   rw [h1] at a
   have:∀ g ∈ keywords,g.length≤12:=by decide
   exact this s (by simpa [hasB] using a)
  ·by_cases b:aV dI s≤12
   ·rw [iD s h0 c a b] at h1
    simp only at h1
    have:=congrArg List.length h1
    simp at this
    omega
   ·rw [jE s h0 c a b] at h2;exact absurd rfl h2
 ·by_cases hd:aQ (gt s 0)=true
  ·by_cases b:g_ (s.take (aV aQ s))=true
   ·rw [iJ s h0 c hd b] at h1
    simp only at h1
    rw [h1] at b
    simp [g_] at b
    omega
   ·rw [jm s h0 c hd b] at h2;exact absurd rfl h2
  ·cases d:jL s with
   | none=>rw [iM s h0 c hd d] at h2;exact absurd rfl h2
   | some g =>
    rw [iN s h0 c hd g d] at h1
    simp only at h1
    rw [h1] at d
    have:∀ g ∈ signs,g.length≤12:=by decide
    exact this s (List.mem_of_find?_eq_some d)
end Mist
namespace Mist
open Go
end Mist
namespace Mist
theorem Rz (s:Bs)(h:(first s).1 ≠ 0):(first s).2=s.take (first s).2.length:=by
 by_cases h0:s.length=0
 ·rw [lH s h0] at h;exact absurd rfl h
 by_cases a:dP (gt s 0)=true
 ·have e:=mR dI s;by_cases d:hasB keywords (s.take (aV dI s))=true
  ·rw [jI s h0 a d];simp
  ·by_cases b:aV dI s≤12
   ·rw [iD s h0 a d b];simp
   ·rw [jE s h0 a d b] at h;exact absurd rfl h
 ·by_cases hd:aQ (gt s 0)=true
  ·by_cases b:g_ (s.take (aV aQ s))=true
   ·rw [iJ s h0 a hd b];simp
   ·rw [jm s h0 a hd b] at h;exact absurd rfl h
  ·cases c:jL s with
   | none=>rw [iM s h0 a hd c] at h;exact absurd rfl h
   | some g =>
    rw [iN s h0 a hd g c];have h2:mO g s=true:=List.find?_some (p:=fun g=>mO g s) c;exact List.prefix_iff_eq_take.1 (List.isPrefixOf_iff_prefix.1 h2)
theorem tH (p:UInt8→Bool)(s:Bs):aV p (s.take (aV p s))=aV p s:=by
 induction s with
 | nil=>rfl
 | cons b r a =>
  by_cases h:p b=true
  ·unfold aV at a ⊢
   rw [List.takeWhile_cons_of_pos h,List.length_cons,List.take_succ_cons,List.takeWhile_cons_of_pos h,List.length_cons,a]
  ·unfold aV;rw [List.takeWhile_cons_of_neg h];rfl
theorem yO:∀ g ∈ signs,first g=(4,g):=by decide +kernel
theorem sK (s:Bs)(n:Nat)(h:0 < n):gt (s.take n) 0=gt s 0:=by
 cases n with
 | zero=>omega
 | succ n=>cases s <;> simp [gt]
theorem zU (s:Bs)(h:(first s).1 ≠ 0):first (first s).2=first s:=by
 by_cases h0:s.length=0
 ·rw [lH s h0] at h;exact absurd rfl h
 by_cases a:dP (gt s 0)=true
 ·have j:=rZ dI s h0 (by simp [dI,a]);have m:=mR dI s;have i:¬ (s.take (aV dI s)).length=0:=by rw [List.length_take];omega
  have c:dP (gt (s.take (aV dI s)) 0)=true:=by rw [sK s _ j];exact a
  have b:=tH dI s;have d:(s.take (aV dI s)).take (aV dI s)=s.take (aV dI s):=by rw [List.take_take,Nat.min_self]
  by_cases f:hasB keywords (s.take (aV dI s))=true
  ·rw [jI s h0 a f];rw [jI _ i c (by rw [b,d];exact f),b,d]
  ·by_cases e:aV dI s≤12
   ·rw [iD s h0 a f e];rw [iD _ i c (by rw [b,d];exact f) (by rw [b];exact e),b,d]
   ·rw [jE s h0 a f e] at h;exact absurd rfl h
 ·by_cases hd:aQ (gt s 0)=true
  ·have j:=rZ aQ s h0 hd;have m:=mR aQ s;have i:¬ (s.take (aV aQ s)).length=0:=by rw [List.length_take];omega
   have c:aQ (gt (s.take (aV aQ s)) 0)=true:=by rw [sK s _ j];exact hd
   have k:¬ dP (gt (s.take (aV aQ s)) 0)=true:=by rw [sK s _ j];exact a
   have b:=tH aQ s;have d:(s.take (aV aQ s)).take (aV aQ s)=s.take (aV aQ s):=by rw [List.take_take,Nat.min_self]
   by_cases e:g_ (s.take (aV aQ s))=true
   ·rw [iJ s h0 a hd e];rw [iJ _ i k c (by rw [b,d];exact e),b,d]
   ·rw [jm s h0 a hd e] at h;exact absurd rfl h
  ·cases c:jL s with
   | none=>rw [iM s h0 a hd c] at h;exact absurd rfl h
   | some g =>
    rw [iN s h0 a hd g c];exact yO g (List.mem_of_find?_eq_some c)
theorem uH (s:Bs)(h:(first s).1 ≠ 0):kind (first s).2=(first s).1:=by
 unfold kind;rw [zU s h,if_pos rfl]
def Placed (s:Bs):Nat→List Tok→Prop
 | a,[]=>s.length≤a
 | a,t :: r=>a < s.length∧t.at_=(a:Int)∧first (s.drop a)=(t.kind,t.text)∧t.kind ≠ 0∧Placed s (a+t.text.length+skip (s.drop (a+t.text.length))) r
theorem lX (s:Bs):∀ (f a:Nat) (b l:List Tok) (x:Nat),s.length < f+a→dJ f s a b=(l,x,0)→∃ r,l=b ++ r∧Placed s a r
 | 0,a,b,l,x,hf,h=>by
  rw [dJ] at h
  simp only [Prod.mk.injEq] at h
  exact⟨[],by rw [h.1];simp,by show s.length≤a;omega⟩
 | f+1,a,b,l,x,hf,h=>by
  by_cases c:s.length≤a
  ·rw [jK f s a b c] at h
   simp only [Prod.mk.injEq] at h
   exact⟨[],by rw [h.1];simp,c⟩
  ·by_cases d:(first (s.drop a)).1=0
   ·rw [kR f s a b c d] at h
    simp at h
   ·by_cases h8:b.length=800
    ·rw [kQ f s a b c d h8] at h
     simp at h
    ·rw [ji f s a b c d h8] at h
     have i:=kr _ d;obtain⟨r,g,e⟩:=lX s f _ _ l x (by omega) h
     refine⟨⟨(first (s.drop a)).1,(first (s.drop a)).2,(a:Int)⟩ :: r,by rw [g];simp,by omega,rfl,rfl,d,e⟩
theorem yL (s:Bs)(h:(Mist.read s).2.2=0):Placed s (skip s) (Mist.read s).1:=by
 by_cases a:(check s).2=0
 ·have e:Mist.read s=dJ (s.length+1) s (skip s) []:=by unfold Mist.read;rw [if_neg (by simpa using a)]
  obtain⟨r,c,b⟩:=lX s (s.length+1) (skip s) [] (Mist.read s).1 (Mist.read s).2.1 (by omega) (by rw [← e,← h]);rw [c];exact b
 ·have e:Mist.read s=([],(check s).1,(check s).2):=by unfold Mist.read;rw [if_pos a]
  rw [e] at h
  exact absurd h a
end Mist
namespace Mist
end Mist
namespace Mist
def aN:List (Bs × Nat × Bs)→Bs
 | []=>[]
 | (g,_,t) :: r=>g ++ (t ++ aN r)
def fO:Nat→List (Bs × Nat × Bs)→List Tok
 | _,[]=>[]
 | a,(g,k,t) :: r=>⟨k,t,((a+g.length:Nat):Int)⟩ :: fO (a+g.length+t.length) r
theorem jW (s:Bs):∀ (r:List Tok) (f a:Nat) (b:List Tok),s.length < f+a→b.length+r.length≤800→Placed s a r→dJ f s a b=(b ++ r,0,0)
 | [],f,a,b,hf,_,h=>by
  have i:s.length≤a:=h
  cases f with
  | zero=>rw [dJ];simp
  | succ f=>rw [jK f s a b i];simp
 | t :: r,f,a,b,hf,hn,h=>by
  obtain⟨h1,h2,h3,h4,h5⟩:=h;obtain⟨f,rfl⟩:∃ g,f=g+1:=⟨f - 1,by omega⟩;have c:¬ (first (s.drop a)).1=0:=by rw [h3];exact h4
  have d:=kr _ c;rw [ji f s a b (by omega) c (by simp at hn;omega)];rw [h3] at d ⊢
  have e:(⟨(t.kind,t.text).1,(t.kind,t.text).2,(a:Int)⟩:Tok)=t:=by
   cases t;simp at h2 ⊢;exact h2.symm
  rw [e]
  have:=jW s r f (a+t.text.length+skip (s.drop (a+t.text.length))) (b ++ [t]) (by simp at d;omega) (by simp at hn ⊢;omega) h5
  simp only [List.append_assoc,List.singleton_append] at this
  exact this
theorem mW (a:Nat)(its:List (Bs × Nat × Bs)):(fO a its).length=its.length:=by
 induction its generalizing a with
 | nil=>rfl
 | cons x r b=>obtain⟨g,k,t⟩:=x;simp [fO,b]
theorem lQ (p:UInt8→Bool)(t r:Bs)(h:t.all p=true)(e:r=[]∨∃ c a,r=c :: a∧p c=false):aV p (t ++ r)=t.length:=by
 have f:∀ b ∈ t,p b=true:=by simpa using h
 unfold aV;rw [List.takeWhile_append_of_pos f];rcases e with rfl | ⟨c,a,rfl,d⟩
 ·simp
 ·rw [List.takeWhile_cons_of_neg (by simp [d])];simp
theorem Er:∀ g ∈ signs,g.length≤2:=by decide
theorem Ei (g:Bs)(x y:UInt8)(r:Bs)(h:g.length≤2):mO g (x :: y :: r)=mO g [x,y]:=by
 unfold mO
 match g,h with
 | [],_=>rfl
 | [a],_=>simp [List.isPrefixOf]
 | [a,b],_=>simp [List.isPrefixOf]
theorem find_congr {p q:Bs→Bool}:∀ (l:List Bs),(∀ g ∈ l,p g=q g)→l.find? p=l.find? q
 | [],_=>rfl
 | g :: l,h=>by
  rw [List.find?_cons,List.find?_cons,h g (by simp),find_congr l (fun x a=>h x (by simp [a]))]
theorem Az (x y:UInt8)(r:Bs):jL (x :: y :: r)=jL [x,y]:=by
 unfold jL;exact find_congr signs fun g a=>Ei g x y r (Er g a)
theorem oo (x y:UInt8)(r:Bs)(b:dP x=false)(hd:aQ x=false):first (x :: y :: r)=first [x,y]:=by
 have h1:¬ dP (gt (x :: y :: r) 0)=true:=by show ¬ dP x=true;simp [b]
 have h2:¬ aQ (gt (x :: y :: r) 0)=true:=by show ¬ aQ x=true;simp [hd]
 have h3:¬ dP (gt [x,y] 0)=true:=by show ¬ dP x=true;simp [b]
 have h4:¬ aQ (gt [x,y] 0)=true:=by show ¬ aQ x=true;simp [hd]
 have e:=Az x y r
 cases a:jL [x,y] with
 | none=>rw [iM _ (by simp) h1 h2 (e.trans a),iM _ (by simp) h3 h4 a]
 | some g=>rw [iN _ (by simp) h1 h2 g (e.trans a),iN _ (by simp) h3 h4 g a]
theorem qZ (a b:List (Bs × Nat × Bs)):aN (a ++ b)=aN a ++ aN b:=by
 induction a with
 | nil=>rfl
 | cons x r c=>obtain⟨g,k,t⟩:=x;simp [aN,c]
end Mist
namespace Mist
end Mist
namespace Mist
theorem Grown.ou {lo:Nat}{ns0 ns:List Nd}{p:Nat × Bool→Bool}{as:List Int}(g:Grown lo ns0 p false as ns):Fo ns lo ns.length [hd as]:=by
 have:=g.fo;rwa [g.one rfl] at this
theorem Grown.all1 {lo:Nat}{ns0 ns:List Nd}{p:Nat × Bool→Bool}{m:Bool}{as:List Int}(g:Grown lo ns0 p m as ns):p (dB ns (hd as))=true:=by
 cases as with
 | nil=>exact absurd rfl g.ne
 | cons a r=>exact g.all a (List.mem_cons_self ..)
section
variable {l:List Tok} {en:Int} (hT:rF l)
include hT
theorem pl_in {k:Nat}(h:k < l.length):within (pl l en k) 0 2000=true:=by
 unfold pl within;rw [if_pos h]
 have:=hT.at_ _ (lN l k h)
 simp [this]
theorem ME {k:Nat}(h:(tg l k).kind=1):isName (tx l k)=true:=by
 have:=hT.kind _ (lN l k (fA h (by simp)))
 unfold isName tx;rw [this,h];rfl
theorem Ad {k:Nat}(h:(tg l k).kind=2):numOf (tx l k) < 10000:=by
 have h1:=hT.kind _ (lN l k (fA h (by simp)));have h2:kind (tx l k)=2:=by unfold tx;rw [h1,h]
 obtain⟨h3,_,h4⟩:=vo _ h2;exact yG _ h4 h3
theorem jv {ns:List Nd}(K:Nat)(x:Bs)(N:Int)(as:List Int)(k:Nat)(h1:known K=true)(d:(ig K == isName x)=true)(a:(ig K || x.isEmpty)=true)(c:jC ⟨K,x,N,as,0⟩=true)(h5:gu ⟨K,x,N,as,0⟩=true)(b:k < l.length)
  (h7:oJ ⟨K,x,N,as,pl l en k⟩ 0 (as.map (dB ns))=true):uP ns ⟨K,x,N,as,pl l en k⟩:=by
 have h6:jC ⟨K,x,N,as,pl l en k⟩=true:=c;have h8:gu ⟨K,x,N,as,pl l en k⟩=true:=h5;unfold known at h1
 unfold uP okB;simp only [h1,d,a,h6,h8,pl_in hT b,h7,Bool.and_self]
theorem fV {ns:List Nd}(K:Nat)(x:Bs)(N:Int)(as:List Int)(k:Nat)(b:K ≠ 24∧K ≠ 41∧K ≠ 34∧K ≠ 33∧K ≠ 40∧K ≠ 42)(h1:known K=true)(h:(ig K == isName x)=true)(d:(ig K || x.isEmpty)=true)
  (g:jC ⟨K,x,N,as,0⟩=true) (h5:gu ⟨K,x,N,as,0⟩=true) (f:k < l.length) (e:∀ a ∈ as,pE (dB ns a)=true):uP ns ⟨K,x,N,as,pl l en k⟩:=by
 refine jv hT K x N as k h1 h d g h5 f (jT (p:=pE) (fun i q c=>?_) as 0 e);unfold pE at c
 unfold ru mJ;simp only [aaS] at c
 simp only [b.1,b.2.1,b.2.2.1,b.2.2.2.1,b.2.2.2.2.1,b.2.2.2.2.2,if_false,c.1,Bool.true_and,or_self]
 have:=c.2
 revert this
 cases (q.1 == 1) <;> cases q.2 <;> simp
theorem bg {K k:Nat}(a:ig K=true)(h:(tg l k).kind=1):(ig K == isName (tx l k))=true∧(ig K || (tx l k).isEmpty)=true:=by
 rw [ME hT h,a];exact⟨rfl,rfl⟩
omit hT in
theorem Af {v:Lv}{s:Bs}(h:¬ fB v s=0):6≤fB v s∧fB v s≤18:=by
 unfold fB at h ⊢
 cases v <;> simp only at h ⊢ <;> (repeat' split) <;> simp_all
omit hT in
theorem Grown.yD {lo:Nat}{ns0 ns a:List Nd}{p:Nat × Bool→Bool}{as:List Int}(g:Grown lo ns0 p false as ns)(k:∃ t,a=ns ++ t):p (dB a (hd as))=true:=by
 refine jc g.ou (aaJ _) (fun c b=>?_) k _ (List.mem_singleton.2 rfl);rw [List.mem_singleton.1 b];exact g.all1
omit hT in
theorem oH {p:Int→Prop}{a b:Int}(h:p a)(k:p b):∀ c ∈ [a,b],p c:=by
 intro c d;rcases List.mem_cons.1 d with rfl | d
 ·exact h
 ·rw [List.mem_singleton.1 d];exact k
omit hT in
theorem fU {p:Int→Prop}{a:Int}(h:p a):∀ c ∈ [a],p c:=by
 intro c b;rw [List.mem_singleton.1 b];exact h
theorem Df:∀ (m:Nat) (j:Job) (k:Nat) (ns:List Nd) (lo:Nat),jN ns→Wf ns→Fo ns lo ns.length j.args→(∀ a ∈ j.args,j.p (dB ns a)=true)→(∀ e y,j=.eu e y→y ≠ [])→Seg lo ns j.p j.many (run l en m j k ns)
 | 0,_,_,_,_,_,_,_,_,_=>by rw [run];exact Seg.none
 | m+1,j,k,ns,lo,d,f,t,B,D=>by
  have I:=fun j k ns lo d f t B D=>Df m j k ns lo d f t B D
  have w:∀ j k ns,jN ns→Wf ns→j.args=[]→(∀ e y,j=.eu e y→y ≠ [])→Seg ns.length ns j.p j.many (run l en m j k ns):=fun j k ns d f G D=>I j k ns ns.length d f (by rw [G];exact .nil _) (by rw [G];intro a h;cases h) D
  cases j with
  | expr =>
   obtain rfl:=t.nil_eq rfl;rw [run];split
   ·rename_i e
    have h1:=aP e (by simp);refine (w .expr (k+1) ns d f rfl (by simp)).thn fun a u n _ g=>Seg.need fun _=>?_
    refine (w .expr (u+1) n g.ok g.wf rfl (by simp)).thn fun b J C _ q=>Seg.need fun _=>?_
    refine (w .expr (J+1) C q.ok q.wf rfl (by simp)).thn fun c Y S _ r=>?_
    have N:∀ x ∈ [hd a,hd b,hd c],pE (dB S x)=true:=by
     intro x H;rcases List.mem_cons.1 H with rfl | H
     ·exact g.yD (dK q.more r.more)
     ·exact oH (p:=fun x=>pE (dB S x)=true) (q.yD r.more) r.all1 x H
    exact Seg.add _ r.ok r.wf (dK g.more (dK q.more r.more)) (((g.ou.more (dK q.more r.more)).append (q.ou.more r.more)).append r.ou)
     (fV hT 19 [] 0 _ k (by decide) rfl (bq rfl).1 (bq rfl).2 rfl rfl h1 N) rfl
   ·split
    ·rename_i e
     have h1:=aP e (by simp);refine Seg.bI fun L=>Seg.need fun _=>?_
     refine (w .expr (k+3) ns d f rfl (by simp)).thn fun a u n _ g=>Seg.need fun _=>?_
     refine (w .expr (u+1) n g.ok g.wf rfl (by simp)).thn fun b J C _ q=>?_
     exact Seg.add _ q.ok q.wf (dK g.more q.more) ((g.ou.more q.more).append q.ou)
      (fV hT 20 _ 0 _ k (by decide) rfl (bg hT rfl L).1 (bg hT rfl L).2 rfl rfl h1 (oH (p:=fun x=>pE (dB C x)=true) (g.yD q.more) q.all1)) rfl
    ·exact w (.lv .or) k ns d f rfl (by simp)
  | lv v =>
   obtain rfl:=t.nil_eq rfl
   have M:∀ v,(v=.or∨v=.and∨v=.cmp∨v=.sum∨v=.term)→Seg ns.length ns pE false (Mist.thn (run l en m (.lv v.below) k ns) fun a u n=>run l en m (.tail v (hd a)) u n):=by
    intro v hv;refine Seg.thn (p1:=pE) (many1:=false) (w (.lv v.below) k ns d f rfl (by simp)) fun a u n _ g=>?_
    exact (I (.tail v (hd a)) u n ns.length g.ok g.wf g.ou (fU (p:=fun x=>pE (dB n x)=true) g.all1) (by simp)).on g.more
   cases v with
   | not =>
    rw [run];split
    ·rename_i e
     have h1:=aP e (by simp);refine (w (.lv .not) (k+1) ns d f rfl (by simp)).thn fun a u n _ g=>?_
     exact Seg.add _ g.ok g.wf g.more g.ou (fV hT 5 [] 0 _ k (by decide) rfl (bq rfl).1 (bq rfl).2 rfl rfl h1 (fU (p:=fun x=>pE (dB n x)=true) g.all1)) rfl
    ·exact w (.lv .cmp) k ns d f rfl (by simp)
   | unary =>
    rw [run];split
    ·rename_i e
     have h1:=aP e (by simp);refine (w (.lv .unary) (k+1) ns d f rfl (by simp)).thn fun a u n _ g=>?_
     exact Seg.add _ g.ok g.wf g.more g.ou (fV hT 4 [] 0 _ k (by decide) rfl (bq rfl).1 (bq rfl).2 rfl rfl h1 (fU (p:=fun x=>pE (dB n x)=true) g.all1)) rfl
    ·exact w .post k ns d f rfl (by simp)
   | or=>rw [run] <;> first | exact M _ (by simp) | simp
   | and=>rw [run] <;> first | exact M _ (by simp) | simp
   | cmp=>rw [run] <;> first | exact M _ (by simp) | simp
   | sum=>rw [run] <;> first | exact M _ (by simp) | simp
   | term=>rw [run] <;> first | exact M _ (by simp) | simp
  | tail v a =>
   have t:Fo ns lo ns.length [a]:=t;have B:∀ x ∈ [a],pE (dB ns x)=true:=B
   show Seg lo ns pE false _
   rw [run];split
   ·exact Seg.give d f t B (by simp) (fun _=>rfl)
   ·rename_i e
    obtain⟨h1,_⟩:=qo e;obtain⟨T,U,R,V,W,X⟩:=Ij (Af e);refine Seg.thn (p1:=pE) (many1:=false) (w (.lv v.below) (k+1) ns d f rfl (by simp)) fun b u n _ g=>?_
    have P:=oH (p:=fun x=>pE (dB n x)=true) (jc t (aaJ _) B g.more a (List.mem_singleton.2 rfl)) g.all1;refine Seg.thn (Seg.add (lo:=lo) (p:=pE) (many:=false) ⟨fB v (tx l k),[],0,[a,hd b],pl l en k⟩ g.ok g.wf g.more ((t.more g.more).append g.ou) (fV hT _ [] 0 _ k T U (bq R).1 (bq R).2 (V _ _) (W _) h1 P) X) fun c J C _ q=>?_
    split
    ·exact (Seg.give q.ok q.wf q.ou (fU (p:=fun x=>pE (dB C x)=true) q.all1) (by simp) (fun _=>rfl)).on q.more
    ·exact (I (.tail v (hd c)) J C lo q.ok q.wf q.ou (fU (p:=fun x=>pE (dB C x)=true) q.all1) (by simp)).on q.more
  | post =>
   obtain rfl:=t.nil_eq rfl;rw [run];refine Seg.thn (p1:=pE) (many1:=false) (w .atom k ns d f rfl (by simp)) fun a u n _ g=>?_
   exact (I (.iq (hd a)) u n ns.length g.ok g.wf g.ou (fU (p:=fun x=>pE (dB n x)=true) g.all1) (by simp)).on g.more
  | iq a =>
   have t:Fo ns lo ns.length [a]:=t;have B:∀ x ∈ [a],pE (dB ns x)=true:=B
   show Seg lo ns pE false _
   rw [run];split
   ·rename_i e
    have h1:=aP e (by simp);refine Seg.bI fun L=>?_
    refine Seg.thn (Seg.add (lo:=lo) (p:=pE) (many:=false) ⟨22,tx l (k+1),0,[a],pl l en k⟩ d f (bQ _) t (fV hT 22 _ 0 _ k (by decide) rfl (bg hT rfl L).1 (bg hT rfl L).2 rfl rfl h1 B) rfl) fun c J C _ q=>?_
    exact (I (.iq (hd c)) J C lo q.ok q.wf q.ou (fU (p:=fun x=>pE (dB C x)=true) q.all1) (by simp)).on q.more
   ·split
    ·rename_i e
     have h1:=aP e (by simp);refine Seg.thn (p1:=pE) (many1:=false) (w .expr (k+1) ns d f rfl (by simp)) fun b u n _ g=>Seg.need fun _=>?_
     have P:=oH (p:=fun x=>pE (dB n x)=true) (jc t (aaJ _) B g.more a (List.mem_singleton.2 rfl)) g.all1;refine Seg.thn (Seg.add (lo:=lo) (p:=pE) (many:=false) ⟨23,[],0,[a,hd b],pl l en k⟩ g.ok g.wf g.more ((t.more g.more).append g.ou) (fV hT 23 [] 0 _ k (by decide) rfl (bq rfl).1 (bq rfl).2 rfl rfl h1 P) rfl) fun c J C _ q=>?_
     exact (I (.iq (hd c)) J C lo q.ok q.wf q.ou (fU (p:=fun x=>pE (dB C x)=true) q.all1) (by simp)).on q.more
    ·exact Seg.give d f t B (by simp) (fun _=>rfl)
  | atom =>
   obtain rfl:=t.nil_eq rfl;rw [run];split
   ·rename_i e
    have h1:=fA e (by simp);have h2:=Ad hT e;refine Seg.add _ d f (bQ _) (.nil _) (jv hT 1 [] _ [] k rfl (bq rfl).1 (bq rfl).2 rfl ?_ h1 rfl) ?_
    ·unfold gu within;simp;omega
    ·show pE (1,decide (((numOf (tx l k):Nat):Int) < 0))=true
     rw [show decide (((numOf (tx l k):Nat):Int) < 0)=false by simp];rfl
   split
   ·rename_i e
    exact Seg.add _ d f (bQ _) (.nil _) (jv hT 2 [] 1 [] k rfl (bq rfl).1 (bq rfl).2 rfl rfl (aP e (by simp)) rfl) rfl
   split
   ·rename_i e
    exact Seg.add _ d f (bQ _) (.nil _) (jv hT 2 [] 0 [] k rfl (bq rfl).1 (bq rfl).2 rfl rfl (aP e (by simp)) rfl) rfl
   split
   ·refine Seg.thn (p1:=pE) (many1:=false) (w .expr (k+1) ns d f rfl (by simp)) fun a u n _ g=>Seg.need fun _=>?_
    exact (Seg.give g.ok g.wf g.ou (fU (p:=fun x=>pE (dB n x)=true) g.all1) (by simp) (fun _=>rfl)).on g.more
   split
   ·rename_i e
    have h1:=aP e (by simp);refine Seg.thn (p1:=pE) (many1:=true) (w (.list .expr) (k+1) ns d f rfl (by simp)) fun as u n _ g=>Seg.need fun _=>?_
    have Q:jC ⟨26,[],0,as,0⟩=true:=by
     show decide (1≤as.length)=true
     have:=List.length_pos_iff.2 g.ne
     simp;omega
    exact Seg.add _ g.ok g.wf g.more g.fo (fV hT 26 [] 0 _ k (by decide) rfl (bq rfl).1 (bq rfl).2 Q rfl h1 g.all) rfl
   refine Seg.bI fun A=>?_
   have h0:=fA A (by simp);split
   ·split
    ·exact Seg.add _ d f (bQ _) (.nil _) (fV hT 21 _ 0 [] k (by decide) rfl (bg hT rfl A).1 (bg hT rfl A).2 rfl rfl h0 (fun a h=>by cases h)) rfl
    ·refine Seg.thn (p1:=pE) (many1:=true) (w (.list .expr) (k+2) ns d f rfl (by simp)) fun as u n _ g=>Seg.need fun _=>?_
     exact Seg.add _ g.ok g.wf g.more g.fo (fV hT 21 _ 0 _ k (by decide) rfl (bg hT rfl A).1 (bg hT rfl A).2 rfl rfl h0 g.all) rfl
   split
   ·refine Seg.thn (p1:=fun q=>q.1 == 25) (many1:=true) (w (.list .put) (k+2) ns d f rfl (by simp)) fun as u n _ g=>Seg.need fun _=>?_
    have Q:jC ⟨24,tx l k,0,as,0⟩=true:=by
     show decide (1≤as.length)=true
     have:=List.length_pos_iff.2 g.ne
     simp;omega
    refine Seg.add _ g.ok g.wf g.more g.fo (jv hT 24 _ 0 _ k rfl (bg hT rfl A).1 (bg hT rfl A).2 Q rfl h0 (jT (p:=fun q=>q.1 == 25) (fun i q F=>?_) as 0 g.all)) rfl;have F:q.1=25:=by simpa using F
    unfold ru mJ;rw [F];rfl
   ·exact Seg.add _ d f (bQ _) (.nil _) (fV hT 3 _ 0 [] k (by decide) rfl (bg hT rfl A).1 (bg hT rfl A).2 rfl rfl h0 (fun a h=>by cases h)) rfl
  | put =>
   obtain rfl:=t.nil_eq rfl;rw [run];refine Seg.bI fun A=>Seg.need fun _=>?_
   have h0:=fA A (by simp);refine Seg.thn (p1:=pE) (many1:=false) (w .expr (k+2) ns d f rfl (by simp)) fun a u n _ g=>?_
   exact Seg.add _ g.ok g.wf g.more g.ou (fV hT 25 _ 0 _ k (by decide) rfl (bg hT rfl A).1 (bg hT rfl A).2 rfl rfl h0 (fU (p:=fun x=>pE (dB n x)=true) g.all1)) rfl
  | param =>
   obtain rfl:=t.nil_eq rfl;rw [run];refine Seg.bI fun A=>Seg.need fun _=>?_
   have h0:=fA A (by simp);refine Seg.thn (p1:=fun q=>iH q.1) (many1:=false) (w .typ (k+2) ns d f rfl (by simp)) fun a u n _ g=>?_
   refine Seg.add _ g.ok g.wf g.more g.ou (jv hT 34 _ 0 _ k rfl (bg hT rfl A).1 (bg hT rfl A).2 rfl rfl h0 (jT (p:=fun q=>iH q.1) (fun i q F=>?_) [hd a] 0 (fU (p:=fun x=>iH (dB n x).1=true) g.all1))) rfl
   have K:(q.1 == 1)=false:=by
    unfold iH at F;simp at F ⊢;omega
   unfold ru mJ;rw [K];simp [F]
  | typ =>
   obtain rfl:=t.nil_eq rfl;rw [run];split
   ·rename_i e
    exact Seg.add _ d f (bQ _) (.nil _) (jv hT 30 [] 0 [] k rfl (bq rfl).1 (bq rfl).2 rfl rfl (aP e (by simp)) rfl) rfl
   split
   ·rename_i e
    exact Seg.add _ d f (bQ _) (.nil _) (jv hT 31 [] 0 [] k rfl (bq rfl).1 (bq rfl).2 rfl rfl (aP e (by simp)) rfl) rfl
   split
   ·rename_i e
    have h1:=aP e (by simp);refine Seg.thn (p1:=fun q=>iH q.1) (many1:=false) (w .typ (k+1) ns d f rfl (by simp)) fun a u n _ g=>Seg.need fun _=>Seg.bI fun _=>Seg.need fun _=>?_
    refine Seg.add _ g.ok g.wf g.more g.ou (jv hT 33 [] _ _ k rfl (bq rfl).1 (bq rfl).2 rfl rfl h1 (jT (p:=fun q=>iH q.1) (fun i q F=>?_) [hd a] 0 (fU (p:=fun x=>iH (dB n x).1=true) g.all1))) rfl
    have K:(q.1 == 1)=false:=by
     unfold iH at F;simp at F ⊢;omega
    unfold ru mJ;rw [K];simp [F]
   ·refine Seg.bI fun A=>?_
    have h0:=fA A (by simp);exact Seg.add _ d f (bQ _) (.nil _) (jv hT 32 _ 0 [] k rfl (bg hT rfl A).1 (bg hT rfl A).2 rfl rfl h0 rfl) rfl
  | list e =>
   obtain rfl:=t.nil_eq rfl;rw [run];have G:e.job.p=e.p∧e.job.many=false∧e.job.args=[]:=by cases e <;> exact⟨rfl,rfl,rfl⟩
   have h1:=w e.job k ns d f G.2.2 (by cases e <;> simp [El.job]);rw [G.1,G.2.1] at h1
   refine Seg.thn h1 fun a u n _ g=>?_
   exact (I (.eu e [hd a]) u n ns.length g.ok g.wf g.ou (fU (p:=fun x=>e.p (dB n x)=true) g.all1) (by intro _ _ h;injection h with _ h;rw [← h];simp)).on g.more
  | eu e y =>
   have t:Fo ns lo ns.length y:=t;have B:∀ x ∈ y,e.p (dB ns x)=true:=B
   show Seg lo ns e.p true _
   rw [run];split
   ·have G:e.job.p=e.p∧e.job.many=false∧e.job.args=[]:=by cases e <;> exact⟨rfl,rfl,rfl⟩
    have h1:=w e.job (k+1) ns d f G.2.2 (by cases e <;> simp [El.job]);rw [G.1,G.2.1] at h1
    refine Seg.thn h1 fun a u n _ g=>?_
    refine (I (.eu e (y ++ [hd a])) u n lo g.ok g.wf ((t.more g.more).append g.ou) (fun x H=>?_) (by intro _ _ h;injection h with _ h;rw [← h];simp)).on g.more;rcases List.mem_append.1 H with H | H
    ·exact jc t (aaJ _) B g.more x H
    ·rw [List.mem_singleton.1 H];exact g.all1
   ·exact Seg.give d f t B (D e y rfl) (fun h=>by cases h)
end
end Mist
namespace Mist
end Mist
namespace Mist
end Mist
namespace Mist
def pI (q:Nat × Bool):Bool:=eP q.1
theorem Jb {q:Nat × Bool}(h:iH q.1=true):(q.1 == 1)=false:=by
 unfold iH at h;simp at h ⊢;omega
theorem vg {n:Nd}(e:n.kind=42):∀ (f:List (Nat × Bool)) (i:Nat) (b a:Nat × Bool),i+f.length+2=n.kids.length→(∀ q ∈ f,(q.1 == 34)=true)→iH b.1=true→pE a=true→oJ n i (f ++ [b] ++ [a])=true
 | [],i,b,a,hl,_,h1,h2=>by
  have c:¬ i+1=n.kids.length:=by simp at hl;omega
  have d:i+2=n.kids.length:=by simpa using hl
  have g:i+1+1=n.kids.length:=by omega
  unfold pE at h2
  simp only [aaS] at h2
  have h3:=h2.2;simp only [List.nil_append,List.cons_append,oJ,ru,mJ,e,Jb h1,if_neg c,if_pos d,if_pos g,h1,h2.1]
  revert h3
  cases (a.1 == 1) <;> cases a.2 <;> simp
 | q :: r,i,b,a,hl,hq,h1,h2=>by
  have c:¬ i+1=n.kids.length:=by simp at hl;omega
  have d:¬ i+2=n.kids.length:=by simp at hl;omega
  have h0:=hq q (List.mem_cons_self ..);have h9:q.1=34:=by simpa using h0
  have j:=vg e r (i+1) b a (by simp at hl;omega) (fun x h=>hq x (List.mem_cons_of_mem _ h)) h1 h2
  show (ru n i q && oJ n (i+1) (r ++ [b] ++ [a]))=true
  rw [j];simp [ru,mJ,e,if_neg c,if_neg d,h9]
section
variable {l:List Tok} {en:Int} (hT:rF l)
include hT
theorem kF (n:Nat)(j:Job)(k:Nat)(ns:List Nd)(f:jN ns)(g:Wf ns)(d:j.args=[])(c:∀ e b,j=.eu e b→b ≠ []):Seg ns.length ns j.p j.many (run l en n j k ns) :=
 Df hT n j k ns ns.length f g (by rw [d];exact .nil _) (by rw [d];intro a h;cases h) c
theorem Cj (k:Nat)(ns:List Nd)(b:jN ns)(c:Wf ns):Seg ns.length ns (fun q=>q.1 == 1) false (sN l en k ns):=by
 unfold sN;split
 ·rename_i e
  have h1:=aP e (by simp);refine Seg.bI fun a=>?_
  have h2:=Ad hT a;exact Seg.add _ b c (bQ _) (.nil _) (jv hT 1 [] _ [] k rfl (bq rfl).1 (bq rfl).2 rfl (by simp [gu,within];omega) h1 rfl) rfl
 ·refine Seg.bI fun a=>?_
  have h1:=fA a (by simp);have h2:=Ad hT a;exact Seg.add _ b c (bQ _) (.nil _) (jv hT 1 [] _ [] k rfl (bq rfl).1 (bq rfl).2 rfl (by simp [gu,within];omega) h1 rfl) rfl
theorem qB {n k B lo:Nat}{ns0 c:List Nd}{ps:List Int}(j:jN c)(y:Wf c)(r:∃ t,c=ns0 ++ t)(h:Fo c lo c.length ps)(v:∀ a ∈ ps,((dB c a).1 == 34)=true)(e:(tg l (k+1)).kind=1)(m:k < l.length):Seg lo ns0 pI false (mg l en n k ps B c):=by
 unfold mg;refine Seg.need fun _=>Seg.need fun _=>?_
 refine Seg.thn (kF hT n .typ _ c j y rfl (by simp)) fun t D f _ g=>?_
 have rest:∀ (u:Int) (i:Nat),0≤u→Seg lo ns0 pI false (kU l en n k ps (hd t) u i f):=by
  intro u i w;unfold kU;refine Seg.need fun _=>?_
  refine Seg.thn (kF hT n .expr _ f g.ok g.wf rfl (by simp)) fun b F C _ q=>?_
  refine Seg.add _ q.ok q.wf (dK r (dK g.more q.more)) (((h.more (dK g.more q.more)).append (g.ou.more q.more)).append q.ou) ?_ rfl;refine jv hT 42 _ u _ k rfl (bg hT rfl e).1 (bg hT rfl e).2 (by simp [jC]) (by simp [gu,w]) m ?_;rw [List.map_append,List.map_append];refine vg rfl _ 0 _ _ (by simp) (fun x A=>?_) (g.yD q.more) q.all1;obtain⟨a,d,rfl⟩:=List.mem_map.1 A;exact jc (p:=fun q=>q.1 == 34) h (aaJ _) v (dK g.more q.more) a d
 split
 ·split
  ·exact Seg.bad
  ·exact Seg.bI fun _=>rest _ _ (Int.natCast_nonneg _)
 ·exact rest 0 _ (Int.le_refl _)
theorem LP (n k:Nat)(ns:List Nd)(b:jN ns)(d:Wf ns)(c:k < l.length):Seg ns.length ns pI false (wT l en n k ns):=by
 unfold wT;split
 ·exact Seg.bad
 ·rename_i h0
  have h8:gy (tx l (k+1))≤8:=by unfold gy;(repeat' split) <;> omega
  split
  ·exact Seg.add _ b d (bQ _) (.nil _) (jv hT 46 [] 7 [] k rfl (bq rfl).1 (bq rfl).2 rfl rfl c rfl) rfl
  ·rename_i h7
   split
   ·refine Seg.thn (kF hT n (.list .expr) _ ns b d rfl (by simp)) fun a j e _ g=>?_
    have f:1≤a.length:=by
     cases a with
     | nil=>exact absurd rfl g.ne
     | cons x r=>simp
    exact Seg.add _ g.ok g.wf g.more g.fo (fV hT 46 [] 8 _ k (by decide) rfl (bq rfl).1 (bq rfl).2 (by simp [jC,f]) rfl c g.all) rfl
   ·rename_i h9
    obtain⟨Q,hQ⟩:∃ Q,Q=gy (tx l (k+1)):=⟨_,rfl⟩;rw [← hQ] at h0 h7 h8 h9 ⊢
    refine Seg.thn (kF hT n .expr _ ns b d rfl (by simp)) fun a j e _ g=>?_
    refine Seg.add _ g.ok g.wf g.more g.ou (fV hT 46 [] _ _ k (by decide) rfl (bq rfl).1 (bq rfl).2 ?_ ?_ c (fU (p:=fun x=>pE (dB e x)=true) g.all1)) rfl
    ·have h:¬ (Q:Int)=7:=by omega
     have i:¬ (Q:Int)=8:=by omega
     simp [jC,h,i]
    ·simp [gu,within];omega
theorem Hu (n k:Nat)(ns:List Nd)(d:jN ns)(f:Wf ns):Seg ns.length ns pI false (item l en n k ns):=by
 unfold item;split
 case isFalse=>exact Seg.bad
 rename_i u
 have e:=fA u (by simp);split
 case h_2=>exact Seg.bad
 rename_i i _
 cases i
 ·
  show Seg ns.length ns pI false (bI l 1 (k+1) _)
  refine Seg.bI fun c=>Seg.need fun _=>?_
  refine Seg.thn (Cj hT _ ns d f) fun a m j _ g=>Seg.need fun _=>?_
  refine Seg.thn (Cj hT _ j g.ok g.wf) fun b y v _ q=>?_
  refine Seg.add _ q.ok q.wf (dK g.more q.more) ((g.ou.more q.more).append q.ou) (jv hT 40 _ 0 _ k rfl (bg hT rfl c).1 (bg hT rfl c).2 rfl rfl e ?_) rfl;refine jT (p:=fun q=>q.1 == 1) (fun i q t=>?_) _ 0 (oH (p:=fun x=>((dB v x).1 == 1)=true) (g.yD (p:=fun q=>q.1 == 1) q.more) q.all1);have h9:q.1=1:=by simpa using t
  simp [ru,mJ,h9]
 ·
  show Seg ns.length ns pI false (bI l 1 (k+1) _)
  refine Seg.bI fun c=>Seg.need fun _=>Seg.need fun _=>?_
  refine Seg.thn (kF hT n (.list .param) _ ns d f rfl (by simp)) fun a m j _ g=>Seg.need fun _=>?_
  have w:1≤a.length:=by
   cases a with
   | nil=>exact absurd rfl g.ne
   | cons x r=>simp
  refine Seg.add _ g.ok g.wf g.more g.fo (jv hT 41 _ 0 _ k rfl (bg hT rfl c).1 (bg hT rfl c).2 (by simp [jC,w]) rfl e ?_) rfl;refine jT (p:=fun q=>q.1 == 34) (fun i q t=>?_) _ 0 g.all;have h9:q.1=34:=by simpa using t
  simp [ru,mJ,h9]
 ·
  show Seg ns.length ns pI false (bI l 1 (k+1) _)
  refine Seg.bI fun c=>Seg.need fun _=>?_
  split
  ·exact qB hT d f (bQ _) (.nil _) (fun a h=>by cases h) c e
  ·refine Seg.thn (kF hT n (.list .param) _ ns d f rfl (by simp)) fun a m j _ g=>?_
   exact qB hT g.ok g.wf g.more g.fo g.all c e
 ·
  show Seg ns.length ns pI false (bI l 1 (k+1) _)
  refine Seg.bI fun c=>Seg.need fun _=>?_
  refine Seg.thn (kF hT n .expr _ ns d f rfl (by simp)) fun a m j _ g=>?_
  exact Seg.add _ g.ok g.wf g.more g.ou (fV hT 43 _ 0 _ k (by decide) rfl (bg hT rfl c).1 (bg hT rfl c).2 rfl rfl e (fU (p:=fun x=>pE (dB j x)=true) g.all1)) rfl
 ·
  show Seg ns.length ns pI false (bI l 1 (k+1) _)
  refine Seg.bI fun c=>Seg.need fun _=>?_
  refine Seg.thn (kF hT n .expr _ ns d f rfl (by simp)) fun a m j _ g=>?_
  exact Seg.add _ g.ok g.wf g.more g.ou (fV hT 44 _ 0 _ k (by decide) rfl (bg hT rfl c).1 (bg hT rfl c).2 rfl rfl e (fU (p:=fun x=>pE (dB j x)=true) g.all1)) rfl
 ·
  show Seg ns.length ns pI false (bI l 1 (k+1) _)
  refine Seg.bI fun c=>?_
  exact Seg.add _ d f (bQ _) (.nil _) (jv hT 45 _ 0 [] k rfl (bg hT rfl c).1 (bg hT rfl c).2 rfl rfl e rfl) rfl
 ·exact LP hT n k ns d f e
theorem vE (n:Nat):∀ (m k:Nat) (ns:List Nd) (its c:List Int) (f:Nat) (b:List Nd),jN ns→Wf ns→Fo ns 0 ns.length its→(∀ a ∈ its,pI (dB ns a)=true)→prog l en n m k ns its=some (.ok c f b) →
  jN b∧Wf b∧Fo b 0 b.length c∧∀ a ∈ c,pI (dB b a)=true
 | 0,_,_,_,_,_,_,_,_,_,_,h=>by cases h
 | m+1,k,ns,its,c,f,b,ha,hw,hf,hp,h=>by
  rw [prog] at h
  split at h
  ·have j:=Hu (en:=en) hT n k ns ha hw
   cases hi:item l en n k ns with
   | none=>rw [hi] at h;cases h
   | some r =>
    rw [hi] at h
    cases r with
    | bad e=>injection h with h;cases h
    | ok a e i =>
     have g:=j a e i hi;have h:need l [59] e (prog l en n m (e+1) i (its ++ [hd a]))=some (.ok c f b):=h;unfold need at h
     split at h
     ·refine vE n m (e+1) i (its ++ [hd a]) c f b g.ok g.wf ((hf.more g.more).append g.ou) (fun x d=>?_) h;rcases List.mem_append.1 d with d | d
      ·exact jc hf (aaJ _) hp g.more x d
      ·rw [List.mem_singleton.1 d];exact g.all1
     ·injection h with h;cases h
  ·injection h with h
   injection h with h1 h2 h3
   subst h1;subst h2;subst h3;exact⟨ha,hw,hf,hp⟩
end
end Mist
namespace Mist
theorem qL (s:Bs):∀ (l:List Tok) (a:Nat),Placed s a l→∀ t ∈ l,Mist.kind t.text=t.kind∧0≤t.at_∧t.at_≤(s.length:Int)∧t.text.length≤s.length
 | [],_,_,t,b=>by cases b
 | x :: r,a,h,t,b=>by
  obtain⟨h1,h2,h3,h4,h5⟩:=h;rcases List.mem_cons.1 b with rfl | b
  ·have h6:(first (s.drop a)).1 ≠ 0:=by rw [h3];exact h4
   have h7:=uH _ h6;have h8:=(kr _ h6).2;rw [h3] at h7 h8
   rw [List.length_drop] at h8
   exact⟨h7,by omega,by omega,by simp only at h8;omega⟩
  ·exact qL s r _ h5 t b
theorem rX {s:Bs}{l:List Tok}(h:Mist.read s=(l,0,0)):rF l∧(∀ t ∈ l,t.text.length≤2000)∧s.length≤2000:=by
 have h0:(Mist.read s).2.2=0:=by rw [h]
 have c:=yL s h0;rw [h] at c
 have d:s.length≤2000:=by
  rcases Nat.lt_or_ge 2000 s.length with h1 | h1
  ·exfalso
   have e:check s=(2000,5):=by unfold check;rw [if_pos h1]
   have:Mist.read s=([],2000,5):=by unfold Mist.read;rw [e];rfl
   rw [this] at h0
   cases h0
  ·exact h1
 have b:=qL s l _ c;exact⟨⟨fun t a=>(b t a).1,fun t a=>⟨(b t a).2.1,by have:=(b t a).2.2.1;omega⟩⟩,fun t a=>Nat.le_trans (b t a).2.2.2 d,d⟩
theorem Fo.few {ns:List Nd}{a b:Nat}{as:List Int}(h:Fo ns a b as):as.length+a≤b:=by
 induction h with
 | nil=>simp
 | snoc h k e i j=>rw [aaO,aaT];have:=Fo.le k;omega
theorem I5 {t:Tr}{x:Nd}(a:jC x=true):sized t x=gD t x:=by
 unfold sized gD;by_cases b:x.kind=40
 ·rw [if_pos b,if_pos b];rw [aaI];simp [within];omega
 rw [if_neg b,if_neg b];by_cases h46:x.kind=46
 ·simp only [h46];simp [jC,h46] at a
  by_cases h7:x.n=7
  ·simp [h7] at a;simp [h7,a]
  ·by_cases h8:x.n=8
   ·simp [h8]
   ·simp [h7,h8] at a;simp [a]
 ·simp [h46]
theorem yJ {T:Tr}(u:jN T.nodes)(v:Wf T.nodes)(hF:Fo T.nodes 0 T.nodes.length T.items){i:Nat}{x:Nd}(g:T.nodes[i]? = some x) :
  x.kids.length≤i∧sized T x=gD T x∧(x.kind=40→∃ k0 j:Nat,x.kids=[(k0:Int),(j:Int)]∧k0 < T.nodes.length∧j < T.nodes.length∧(-9999≤(nd T k0).n∧(nd T k0).n≤9999)∧(-9999≤(nd T j).n∧(nd T j).n≤9999)):=by
 have B:i < T.nodes.length:=(aaE.1 g).1;have d:=u i x g;unfold uP okB at d
 simp only [aaS] at d
 obtain⟨⟨⟨⟨⟨⟨_,_⟩,_⟩,w⟩,_⟩,_⟩,h⟩:=d
 refine⟨?_,I5 w,fun y=>?_⟩
 ·obtain⟨n,m,D,_,A⟩:=hF.each i (aaL _) B;obtain rfl:=aaP (D.symm.trans g)
  have:=A.few
  omega
 ·have h2:x.kids.length=2:=by simpa [jC,y] using w
  obtain⟨a,b,e⟩:∃ a b,x.kids=[a,b]:=by
   rcases f:x.kids with _ | ⟨a,_ | ⟨b,_ | ⟨c,r⟩⟩⟩
   ·rw [f] at h2;simp at h2
   ·rw [f] at h2;simp at h2
   ·exact⟨a,b,rfl⟩
   ·rw [f] at h2;simp at h2
  have k:=v i x g a (by rw [e];simp);have q:=v i x g b (by rw [e];simp);rw [e] at h
  simp only [List.map_cons,List.map_nil,oJ,ru,mJ,y,aaS] at h
  have num:∀ c:Int,0≤c→c < (i:Int)→(dB T.nodes c).1=1→-9999≤(nd T c.toNat).n∧(nd T c.toNat).n≤9999:=by
   intro c h0 h1 f;have C:c.toNat < T.nodes.length:=by omega
   have t:(nd T c.toNat).kind=1:=f;have d:=u c.toNat _ (Cw C);unfold uP okB at d
   simp only [aaS] at d
   have F:=d.1.1.2
   simpa [gu,t,within] using F
  refine⟨a.toNat,b.toNat,by rw [e,Int.toNat_of_nonneg k.1,Int.toNat_of_nonneg q.1],by omega,by omega,num a k.1 k.2 ?_,num b q.1 q.2 ?_⟩
  ·have:=h.1.1;simpa using this
  ·have:=h.2.1;simpa using this
end Mist
namespace Mist
theorem Pg (l:Bs):(Mist.read l).1.length≤800:=by
 have c:∀ (f:Nat) (l:Bs) (a:Nat) (b:List Tok),b.length≤800→(dJ f l a b).1.length≤800:=by
  intro f
  induction f with
  | zero=>intro l a b h;exact h
  | succ f d =>
   intro l a b h;rw [dJ];split
   ·exact h
   ·split
    ·simp
    ·split
     ·simp
     ·exact d _ _ _ (by simp;omega)
 unfold Mist.read;split
 ·simp
 ·exact c _ _ _ _ (by simp)
theorem EK {l:List Tok}(en:Int)(hT:rF l)(t:l.length≤800) :
  (∃ its ns,prog l en (13 * l.length+41) (l.length+1) 0 [] []=some (.ok its l.length ns)∧nM l (13 * l.length+41) (l.length+1) ⟨0,false,[]⟩ []=some (its,⟨l.length,false,ns⟩)∧jN ns∧Wf ns∧Fo ns 0 ns.length its∧ns.length≤l.length∧its.length≤l.length) ∨
  (∃ k its ns,prog l en (13 * l.length+41) (l.length+1) 0 [] []=some (.bad k)∧nM l (13 * l.length+41) (l.length+1) ⟨0,false,[]⟩ []=some (its,⟨k,true,ns⟩)∧ns.length≤100000):=by
 have d:Wf ([]:List Nd):=fun i n h=>by simp at h
 obtain⟨r,b,h1,h2⟩:=vF (l:=l) (en:=en) (13 * l.length+41) (by omega) (l.length+1) 0 [] [] (aaL _) d (by omega) (Ids.nil _);have e:=yC (l:=l) (en:=en) (M:=100000) hT.kind (13 * l.length+41) (by omega) (by omega) (l.length+1) 0 [] [] (aaL _) (aaL _) d (by omega)
 cases r with
 | ok its k ns =>
  left
  obtain⟨rfl,c,_,_,_,g⟩:=h1 its k ns rfl;obtain⟨j,m,q,_⟩:=vE (en:=en) hT (13 * l.length+41) (l.length+1) 0 [] [] its l.length ns (fun i n h=>by simp at h) d (.nil _) (fun a h=>by cases h) b;exact⟨its,ns,b,e.1 its l.length ns b,j,m,q,by simpa using c,by simpa using g⟩
 | bad k =>
  right
  obtain⟨its,ns,f,c⟩:=e.2 k b;exact⟨k,its,ns,b,f,c⟩
end Mist
namespace Mist
abbrev bN:=List (Bs × Nat × Bs)
structure bC where
 left:Bs
 ns:List Nd
def bC.nx (s:bC):Nat:=(s.left.headD 0).toNat
def bC.tl (s:bC):bC:=⟨s.left.tail,s.ns⟩
def bC.put (s:bC)(n:Nd):bC:=⟨s.left,s.ns ++ [n]⟩
def bC.id (s:bC):Int:=(s.ns.length:Int)
structure kJ where
 pc:bN
 ix:Int
 st:bC
structure pz where
 pc:bN
 ix:List Int
 st:bC
def xP:List Bs:=[[32],[32,32],[10],[32,35,32,97,59,32,40,10],[32],[32,10,32]]
def bG (ay:Bool)(s:bC):Bs:=if ay=true then sg xP (s.nx % 6) else [32]
def aX (ay:Bool)(s:bC):bC:=if ay=true then s.tl else s
def j4:List Bs:=[[97],[98],[99,50],[115,111],[105,102,102],[116,114,101,101],[120],[108,101,116,115]]
def bA (b:Nat):Bs:=sg j4 (b % 8)
def bN.on (g:Bs):bN→bN
 | []=>[]
 | (h,k,t) :: r=>(g ++ h,k,t) :: r
def bP (t:Bs):Bs × Nat × Bs:=([],4,t)
def fI (n:Int):bN:=if n < 0 then [([],4,[45]),([],2,Go.Lib.itoa (-n))] else [([],2,Go.Lib.itoa n)]
def fK (ay:Bool)(I:bN)(s:bC):bN :=
 if ay=true∧s.nx % 4=0 then bP [40] :: bP [40] :: I ++ [(bG ay s.tl,4,[41]),bP [41]] else bP [40] :: I ++ [bP [41]]
def gX (ay:Bool)(s:bC):bC:=if ay=true then (if s.nx % 4=0 then aX ay s.tl else s.tl) else s
def bH (I:bN)(s:bC)(n:Nd):kJ:=⟨I,s.id,s.put n⟩
def lF (b:Nat)(s:bC):kJ :=
 if b < 20 then bH (fI ((b * 7:Nat):Int)) s ⟨1,[],((b * 7:Nat):Int),[],0⟩
 else if b < 30 then bH [([],3,if b % 2=0 then [102,97,108,115,101] else [116,114,117,101])] s ⟨2,[],((b % 2:Nat):Int),[],0⟩
 else bH [([],1,bA b)] s ⟨3,bA b,0,[],0⟩
def gL:List Bs:=[[43],[45],[42],[47],[37],[61,61],[33,61],[60],[60,61],[62],[62,61],[97,110,100],[111,114]]
def opK (k:Nat):Nat:=if k < 11 then 4 else 3
section
variable (ay:Bool) (E:bC→kJ)
def bK:Nat→pz→pz
 | 0,r=>r
 | m+1,r =>
  if r.ix=[] then
   let a:=E r.st
   bK m ⟨r.pc ++ a.pc,r.ix ++ [a.ix],a.st⟩
  else
   let a:=E (aX ay r.st)
   bK m ⟨r.pc ++ (bP [44] :: bN.on (bG ay r.st) a.pc),r.ix ++ [a.ix],a.st⟩
def BN (b:Nat)(s:bC):kJ :=
 let a:=E s
 let I:=(if b % 2=0 then ([],3,[110,111,116]) else bP [45]) :: bN.on (bG ay a.st) a.pc
 let s1:=aX ay a.st
 bH (fK ay I s1) (gX ay s1) ⟨if b % 2=0 then 5 else 4,[],0,[a.ix],0⟩
def Ga (b:Nat)(s:bC):kJ :=
 let a:=E s
 let c:=E a.st
 let s1:=aX ay c.st
 let s2:=aX ay s1
 let I:=a.pc ++ (bG ay c.st,opK (b % 13),sg gL (b % 13)) :: bN.on (bG ay s1) c.pc
 bH (fK ay I s2) (gX ay s2) ⟨6+b % 13,[],0,[a.ix,c.ix],0⟩
def CW (b:Nat)(s:bC):kJ:=if b < 75 then BN ay E b s else Ga ay E b s
def Va (s:bC):kJ :=
 let a:=E s
 let c:=E a.st
 let d:=E c.st
 let s1:=aX ay d.st
 let s2:=aX ay s1
 let s3:=aX ay s2
 let s4:=aX ay s3
 let s5:=aX ay s4
 let I:=([],3,[105,102]) :: (bN.on (bG ay d.st) a.pc ++ (bG ay s1,3,[116,104,101,110]) :: (bN.on (bG ay s2) c.pc ++ (bG ay s3,3,[101,108,115,101]) :: bN.on (bG ay s4) d.pc))
 bH (fK ay I s5) (gX ay s5) ⟨19,[],0,[a.ix,c.ix,d.ix],0⟩
def DW (x:Bs)(s:bC):kJ :=
 let a:=E s
 let c:=E a.st
 let s1:=aX ay c.st
 let s2:=aX ay s1
 let s3:=aX ay s2
 let s4:=aX ay s3
 let I:=([],3,[108,101,116]) :: (bG ay c.st,1,x) :: (bG ay s1,4,[61]) :: (a.pc ++ (bG ay s2,3,[105,110]) :: bN.on (bG ay s3) c.pc)
 bH (fK ay I s4) (gX ay s4) ⟨20,x,0,[a.ix,c.ix],0⟩
def xJ (x:Bs)(s:bC):kJ :=
 let r:=bK ay E (s.nx % 4) ⟨[],[],s.tl⟩
 bH (([],1,x) :: bP [40] :: (r.pc ++ [(bG ay r.st,4,[41])])) (aX ay r.st) ⟨21,x,0,r.ix,0⟩
def sI (x:Bs)(s:bC):kJ :=
 let a:=E s
 bH (bP [40] :: (a.pc ++ [bP [41],(bG ay a.st,4,[46]),([],1,x)])) (aX ay a.st) ⟨22,x,0,[a.ix],0⟩
def sP (s:bC):kJ :=
 let a:=E s
 let c:=E a.st
 bH (bP [40] :: (a.pc ++ bP [41] :: bP [91] :: (c.pc ++ [(bG ay c.st,4,[93])]))) (aX ay c.st) ⟨23,[],0,[a.ix,c.ix],0⟩
def rQ (s:bC):kJ :=
 let r:=bK ay E (1+s.nx % 4) ⟨[],[],s.tl⟩
 bH (bP [91] :: (bN.on (bG ay r.st) r.pc ++ [bP [93]])) (aX ay r.st) ⟨26,[],0,r.ix,0⟩
def eD:Nat→pz→pz
 | 0,r=>r
 | m+1,r =>
  let s0:=if r.ix=[] then r.st else aX ay r.st
  let a:=E s0.tl
  let I:bN:=([],1,bA s0.nx) :: bP [58] :: a.pc
  eD m ⟨r.pc ++ (if r.ix=[] then I else (bG ay r.st,4,[44]) :: I),r.ix ++ [a.st.id],a.st.put ⟨25,bA s0.nx,0,[a.ix],0⟩⟩
def D_ (x:Bs)(b:Nat)(s:bC):kJ :=
 let r:=eD ay E (1+b % 3) ⟨[],[],s⟩
 bH (([],1,x) :: bP [123] :: (r.pc ++ [(bG ay r.st,4,[125])])) (aX ay r.st) ⟨24,x,0,r.ix,0⟩
def eF (b:Nat)(s:bC):kJ :=
 let x:=bA s.nx
 if b % 7=0 then Va ay E s.tl else if b % 7=1 then DW ay E x s.tl else if b % 7=2 then xJ ay E x s.tl else if b % 7=3 then sI ay E x s.tl
 else if b % 7=4 then sP ay E s.tl else if b % 7=5 then rQ ay E s.tl else D_ ay E x b s.tl
end
def bB (ay:Bool):Nat→bC→kJ
 | 0,s=>lF (s.nx % 60) s.tl
 | d+1,s=>if s.nx < 60 then lF s.nx s.tl else if s.nx < 150 then CW ay (bB ay d) s.nx s.tl else eF ay (bB ay d) s.nx s.tl
def bF (ay:Bool):Nat→bC→kJ
 | 0,s =>
  if s.nx % 4=0 then bH [([],3,[105,110,116])] s.tl ⟨30,[],0,[],0⟩ else if s.nx % 4=1 then bH [([],3,[98,111,111,108])] s.tl ⟨31,[],0,[],0⟩
  else bH [([],1,bA s.nx)] s.tl ⟨32,bA s.nx,0,[],0⟩
 | d+1,s =>
  if s.nx % 4=0 then bH [([],3,[105,110,116])] s.tl ⟨30,[],0,[],0⟩ else if s.nx % 4=1 then bH [([],3,[98,111,111,108])] s.tl ⟨31,[],0,[],0⟩
  else if s.nx % 4=2 then bH [([],1,bA s.nx)] s.tl ⟨32,bA s.nx,0,[],0⟩
  else
   let a:=bF ay d s.tl
   let s1:=aX ay a.st.tl
   bH (bP [91] :: (a.pc ++ [(bG ay a.st.tl,4,[59]),([],2,Go.Lib.itoa ((1+a.st.nx % 6:Nat):Int)),bP [93]])) s1 ⟨33,[],((1+a.st.nx % 6:Nat):Int),[a.ix],0⟩
def bE (ay:Bool):Nat→pz→pz
 | 0,r=>r
 | m+1,r =>
  let s0:=if r.ix=[] then r.st else aX ay r.st
  let g:=if r.ix=[] then [] else bG ay r.st
  let a:=bF ay 2 s0.tl
  let s1:=aX ay a.st
  let I:bN:=(g,1,bA s0.nx) :: bP [58] :: bN.on (bG ay a.st) a.pc
  bE ay m ⟨r.pc ++ (if r.ix=[] then I else bP [44] :: I),r.ix ++ [s1.id],s1.put ⟨34,bA s0.nx,0,[a.ix],0⟩⟩
def bX (n:Int)(s:bC):kJ:=bH (fI n) s ⟨1,[],n,[],0⟩
def jr:List Bs:=[[],[109,117,115,116],[109,97,121],[99,111,117,110,116],[98,111,117,110,100,115],[118,97,108,117,101,115],[119,104,121],[98,108,97,109,101],[108,111,111,107]]
def qz (ay:Bool)(q:Nat)(s:bC):kJ :=
 let many:=if q=7 then 0 else if q=8 then 1+s.nx % 4 else 1
 let r:=bK ay (bB ay 3) many ⟨[],[],if q=8 then s.tl else s⟩
 bH (([],3,[97,115,107]) :: (bG ay r.st,3,sg jr q) :: bN.on [32] r.pc) (aX ay r.st) ⟨46,[],(q:Int),r.ix,0⟩
def oG (ay:Bool)(x:Bs)(s:bC):kJ :=
 let low:Int:=((s.nx % 30:Nat):Int) - 15
 let a:=bX low s.tl
 let c:=bX (low+((a.st.nx % 12:Nat):Int)) a.st.tl
 let s1:=aX ay c.st
 let s2:=aX ay s1
 bH (([],3,[99,104,111,111,115,101]) :: ([32],1,x) :: bP [58] :: (bN.on (bG ay c.st) a.pc ++ (bG ay s1,4,[46,46]) :: bN.on (bG ay s2) c.pc)) (aX ay s2) ⟨40,x,0,[a.ix,c.ix],0⟩
def Ah (ay:Bool)(x:Bs)(s:bC):kJ :=
 let r:=bE ay (1+s.nx % 6) ⟨[],[],s.tl⟩
 bH (([],3,[116,121,112,101]) :: ([32],1,x) :: bP [61] :: bP [123] :: (r.pc ++ [bP [125]])) r.st ⟨41,x,0,r.ix,0⟩
def pO (s:bC):Nat:=if 8 < s.nx % 12 then 0 else s.nx % 12
def BG (ay:Bool)(x:Bs)(s:bC):kJ :=
 let r:=bE ay (s.nx % 5) ⟨[],[],s.tl⟩
 let t:=bF ay 2 r.st
 let n:=pO t.st
 let s1:=if 0 < n then aX ay t.st.tl else t.st.tl
 let u:bN:=if 0 < n then [([32],3,[117,112,116,111]),(bG ay t.st.tl,2,Go.Lib.itoa (n:Int))] else []
 let b:=bB ay 4 s1
 let s2:=aX ay b.st
 let s3:=aX ay s2
 bH (([],3,[102,117,110]) :: (bG ay b.st,1,x) :: bP [40] :: (r.pc ++ bP [41] :: (bG ay s2,4,[58]) :: (t.pc ++ (u ++ (bG ay s3,4,[61]) :: b.pc)))) (aX ay s3) ⟨42,x,(n:Int),r.ix ++ [t.ix,b.ix],0⟩
def mM (ay:Bool)(x:Bs)(s:bC):kJ :=
 let a:=bB ay 4 s
 bH (([],3,[108,101,116]) :: ([32],1,x) :: bP [61] :: bN.on (bG ay a.st) a.pc) (aX ay a.st) ⟨43,x,0,[a.ix],0⟩
def ng (ay:Bool)(x:Bs)(s:bC):kJ :=
 let a:=bB ay 4 s
 bH (([],3,[111,98,115,101,114,118,101]) :: ([32],1,x) :: (bG ay a.st,4,[58]) :: a.pc) (aX ay a.st) ⟨44,x,0,[a.ix],0⟩
def oP (ay:Bool)(x:Bs)(s:bC):kJ :=
 bH [([],3,[114,101,116,114,97,99,116]),(bG ay s,1,x)] (aX ay s) ⟨45,x,0,[],0⟩
def bZ (ay:Bool)(s:bC):kJ :=
 let b:=s.nx
 let x:=bA s.tl.nx
 let s2:=s.tl.tl
 if b % 7=0 then oG ay x s2 else if b % 7=1 then Ah ay x s2 else if b % 7=2 then BG ay x s2 else if b % 7=3 then mM ay x s2
 else if b % 7=4 then ng ay x s2 else if b % 7=5 then oP ay x s2 else qz ay (1+s2.nx % 8) s2.tl
def dQ (s:bC):Bs:=if s.nx % 7=6∧s.tl.tl.nx % 8=6 then [32] else []
def dM (ay:Bool)(s:bC):kJ :=
 let a:=bZ ay s
 ⟨a.pc ++ [(dQ s ++ bG ay a.st,4,[59])],a.ix,aX ay a.st⟩
def jR (ay:Bool):Nat→pz→pz
 | 0,r=>r
 | m+1,r =>
  if r.st.left=[] then r
  else
   let a:=dM ay r.st
   jR ay m ⟨r.pc ++ (if r.ix=[] then a.pc else bN.on [10] a.pc),r.ix ++ [a.ix],a.st⟩
def grown (ay:Bool)(zA:Bs):pz:=jR ay 12 ⟨[],[],⟨zA,[]⟩⟩
def bY (ay:Bool)(zA:Bs):Bs:=aN (grown ay zA).pc ++ (if (grown ay zA).ix=[] then [] else [10])
def jy (ay:Bool)(zA:Bs):Tr:=⟨(grown ay zA).st.ns,(grown ay zA).ix⟩
def uJ (s:Bs):Bool:=decide (s.length≤2000) && decide ((s.filter fun b=>!(b == 32) && !(b == 10)).length≤800)
end Mist
