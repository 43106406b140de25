/-
  A part of the proof.
-/
import Derived.Test.YtalghggmkojblaaGreatDoorS02
set_option linter.all false
set_option maxRecDepth 100000
namespace Mist
section
variable {l:List Tok} {en:Int}
theorem F4 {k:Nat}{ns:List Nd}(b:k≤l.length)(a:Wf ns):dH True l k (k+1) ns (Gh l en k ns):=by
 unfold Gh;split
 ·rename_i e
  have h1:=dR e (by simp);exact dH.eF (by simp) (by omega) fun g=>dH.add _ (by omega) (by omega) (by omega) (gX _) a (Ids.nil _)
 ·exact dH.eF (by simp) b fun g=>dH.add _ (by omega) (by omega) (by omega) (gX _) a (Ids.nil _)
theorem oM {m:Nat}{j:Job}{k:Nat}{ns:List Nd}(c:k≤l.length)(d:Wf ns)(hi:Ids j.args ns.length)(b:∀ e a,j=.lI e a→a ≠ []):dH (13 * (l.length - k)+j.rank < m) l k (k+j.reads) ns (run l en m j k ns):=Hw m j k ns c d hi b
theorem zX {n k k0:Nat}{ps:List Int}{t u:Int}{a:Nat}{ns ns0:List Nd}(c:a≤l.length)(h0:k+1≤a)(v:ns.length+k0+1≤ns0.length+a)(d:∃ t,ns=ns0 ++ t)(e:Wf ns)(hi:Ids (ps ++ [t]) ns.length) :
  dH (13 * (l.length - a)+12 < n) l k0 (k+1) ns0 (wG l en n k ps t u a ns):=by
 unfold wG;refine dH.need (by simp) c fun g=>?_
 refine (oM (m:=n) (j:=.expr) (by omega) e (Ids.nil _) (by simp)).thn (fun h=>by simp only [Job.rank];omega) fun b w f q=>?_
 have i:=q.lo;have x:=q.few;have r:=q.len;simp only [Job.reads] at i
 exact dH.add _ (by omega) q.le (by omega) (kL d q.more) q.wf ((hi.mono r).app (Ids.cons q.hd (Ids.nil _)))
theorem zY {n k k0:Nat}{ps:List Int}{a:Nat}{ns ns0:List Nd}(f:a≤l.length)(h0:k+1≤a)(x:ns.length+k0+1≤ns0.length+a)(c:∃ t,ns=ns0 ++ t)(i:Wf ns)(hi:Ids ps ns.length) :
  dH (13 * (l.length - a)+12 < n) l k0 (k+1) ns0 (wH l en n k ps a ns):=by
 unfold wH;refine dH.need (by simp) f fun g=>dH.need (by simp) (by omega) fun v=>?_
 refine (oM (m:=n) (j:=.typ) (by omega) i (Ids.nil _) (by simp)).thn (fun h=>by simp only [Job.rank];omega) fun b y r q=>?_
 have u:=q.lo;have A:=q.few;have d:=q.len;simp only [Job.reads] at u
 split
 ·rename_i e
  have h1:=dR e (by simp);split
  ·exact dH.bad (by omega)
  ·refine dH.eF (by simp) (by omega) fun w=>?_
   exact (zX (by omega) (by omega) (by omega) (kL c q.more) q.wf ((hi.mono d).app (Ids.cons q.hd (Ids.nil _)))).imp (fun h=>by omega)
 ·exact (zX q.le (by omega) (by omega) (kL c q.more) q.wf ((hi.mono d).app (Ids.cons q.hd (Ids.nil _)))).imp (fun h=>by omega)
theorem TH {k:Nat}(h:¬ oI (tx l k)=0):k < l.length:=by
 rcases Nat.lt_or_ge k l.length with h1 | h1
 ·exact h1
 ·exfalso;apply h
  have:tx l k=[]:=by unfold tx;rw [uJ l k h1]
  rw [this];rfl
theorem WS {n k:Nat}{ns:List Nd}(x:k≤l.length)(d:Wf ns):dH (13 * (l.length - k)+12 < n) l k (k+1) ns (item l en n k ns):=by
 unfold item;split
 case isFalse=>exact dH.bad x
 rename_i e
 have h1:=mH e (by simp);split
 case h_2=>exact dH.bad x
 rename_i C _
 cases C with
 | choose =>
  unfold jg;refine dH.eF (by simp) (by omega) fun g=>dH.need (by simp) (by omega) fun u=>?_
  refine (F4 (by omega) d).thn (fun _=>trivial) fun a w v q=>dH.need (by simp) q.le fun A=>?_
  have c:=q.lo;have f:=q.few;refine (F4 (by omega) q.wf).thn (fun _=>trivial) fun b F H r=>?_
  have r1:=r.lo;have r2:=r.few;have G:=r.len;have E:=q.hd;exact dH.add _ (by omega) r.le (by omega) (kL q.more r.more) r.wf (Ids.cons (by omega) (Ids.cons r.hd (Ids.nil _)))
 | record =>
  unfold jg;refine dH.eF (by simp) (by omega) fun g=>dH.need (by simp) (by omega) fun u=>dH.need (by simp) (by omega) fun A=>?_
  refine (oM (m:=n) (j:=.list .param) (by omega) d (Ids.nil _) (by simp)).thn (fun h=>by simp only [Job.rank];omega) fun as w v q=>dH.need (by simp) q.le fun D=>?_
  have c:=q.lo;have f:=q.few;simp only [Job.reads] at c
  exact dH.add _ (by omega) (by omega) (by omega) q.more q.wf q.ids
 | Sb =>
  unfold jg;refine dH.eF (by simp) (by omega) fun g=>dH.need (by simp) (by omega) fun u=>?_
  split
  ·exact (zY (by omega) (by omega) (by omega) (gX _) d (Ids.nil _)).imp (fun h=>by omega)
  ·refine (oM (m:=n) (j:=.list .param) (by omega) d (Ids.nil _) (by simp)).thn (fun h=>by simp only [Job.rank];omega) fun as w v q=>?_
   have c:=q.lo;have f:=q.few;simp only [Job.reads] at c
   exact (zY q.le (by omega) (by omega) q.more q.wf q.ids).imp (fun h=>by omega)
 | Lg =>
  unfold jg;refine dH.eF (by simp) (by omega) fun g=>dH.need (by simp) (by omega) fun u=>?_
  refine (oM (m:=n) (j:=.expr) (by omega) d (Ids.nil _) (by simp)).thn (fun h=>by simp only [Job.rank];omega) fun b y i q=>?_
  have c:=q.lo;have f:=q.few;simp only [Job.reads] at c
  exact dH.add _ (by omega) q.le (by omega) q.more q.wf (Ids.cons q.hd (Ids.nil _))
 | observe =>
  unfold jg;refine dH.eF (by simp) (by omega) fun g=>dH.need (by simp) (by omega) fun u=>?_
  refine (oM (m:=n) (j:=.expr) (by omega) d (Ids.nil _) (by simp)).thn (fun h=>by simp only [Job.rank];omega) fun b y i q=>?_
  have c:=q.lo;have f:=q.few;simp only [Job.reads] at c
  exact dH.add _ (by omega) q.le (by omega) q.more q.wf (Ids.cons q.hd (Ids.nil _))
 | uG =>
  unfold jg;exact dH.eF (by simp) (by omega) fun g=>dH.add _ (by omega) (by omega) (by omega) (gX _) d (Ids.nil _)
 | ask =>
  show dH _ l k (k+1) ns (UM l en n k ns)
  unfold UM;split
  ·exact dH.bad (by omega)
  ·rename_i B
   have h2:=TH B;split
   ·exact dH.add _ (by omega) (by omega) (by omega) (gX _) d (Ids.nil _)
   ·split
    ·refine (oM (m:=n) (j:=.list .expr) (by omega) d (Ids.nil _) (by simp)).thn (fun h=>by simp only [Job.rank];omega) fun as w v q=>?_
     have c:=q.lo;have f:=q.few;simp only [Job.reads] at c
     exact dH.add _ (by omega) q.le (by omega) q.more q.wf q.ids
    ·refine (oM (m:=n) (j:=.expr) (by omega) d (Ids.nil _) (by simp)).thn (fun h=>by simp only [Job.rank];omega) fun b y i q=>?_
     have c:=q.lo;have f:=q.few;simp only [Job.reads] at c
     exact dH.add _ (by omega) q.le (by omega) q.more q.wf (Ids.cons q.hd (Ids.nil _))
theorem Xw {n k b:Nat}{ns a:List Nd}{as:List Int}(c:k≤l.length)(d:Wf ns)(e:item l en n k ns=some (.ok as b a)):Goes l k (k+1) ns as b a:=((WS c d).2 _ e).1 as b a rfl
end
section
variable (l:List Tok)
end
section
variable {l:List Tok} {en:Int} {k M:Nat} {ns:List Nd}
theorem KN.bad {q:Option (List Int × RS)}(h:pJ k M q):KN M (some (.bad k)) q :=
 ⟨fun _ _ _ e=>(by injection e with e;cases e),fun a e=>by injection e with e;injection e with e;subst e;exact h⟩
section
variable (hK:∀ t ∈ l,Mist.kind t.text=t.kind)
include hK
end
end
end Mist
namespace Mist
def lg (ns:List Nd)(c:Int):Nat × Bool:=((ns.getD c.toNat default).kind,decide ((ns.getD c.toNat default).n < 0))
def yD (n:Nd)(i:Nat)(q:Nat × Bool):Bool:=ku n i q.1 && !(q.1 == 1 && q.2 && !(n.kind == 40))
def uP (n:Nd):Nat→List (Nat × Bool)→Bool
 | _,[]=>true
 | i,q :: r=>yD n i q && uP n (i+1) r
def okB (n:Nd)(ki:List (Nat × Bool)):Bool :=
 (iT n.kind || n.kind == 25 || kg n.kind || n.kind == 34 || fM n.kind) && (iM n.kind == isName n.text) && (iM n.kind || n.text.isEmpty) && kH n && gL n && within n.at_ 0 2000 && uP n 0 ki
def vw (ns:List Nd)(n:Nd):Prop:=okB n (n.kids.map (lg ns))=true
def mE (ns:List Nd):Prop:=∀ (i:Nat) n,ns[i]? = some n→vw ns n
inductive Fo (ns:List Nd):Nat→Nat→List Int→Prop
 | nil (a:Nat):Fo ns a a []
 | snoc {a m b:Nat} {as:List Int} {n:Nd} (h:Fo ns a m as) (k:Fo ns m b n.kids) (e:ns[b]? = some n):Fo ns a (b+1) (as ++ [(b:Int)])
theorem Fo.le {ns:List Nd}{a b:Nat}{as:List Int}(h:Fo ns a b as):a≤b:=by
 induction h with
 | nil=>exact amL _
 | snoc _ _ _ i j=>omega
theorem Fo.mono {ns:List Nd}{a b:Nat}{as:List Int}(h:Fo ns a b as)(t:List Nd):Fo (ns ++ t) a b as:=by
 induction h with
 | nil a=>exact .nil a
 | snoc _ _ e i j=>exact .snoc i j (by rw [List.getElem?_append_left (amG.1 e).1];exact e)
theorem Fo.append {ns:List Nd}{a m b:Nat}{as c:List Int}(h:Fo ns a m as)(k:Fo ns m b c):Fo ns a b (as ++ c):=by
 induction k with
 | nil=>simpa using h
 | snoc f d e i j=>rw [← List.append_assoc];exact .snoc (i h) d e
theorem Fo.one {ns:List Nd}{a b:Nat}{n:Nd}(h:Fo ns a b n.kids)(e:ns[b]? = some n):Fo ns a (b+1) [(b:Int)]:=.snoc (.nil a) h e
theorem Fo.ids {ns:List Nd}{a b:Nat}{as:List Int}(h:Fo ns a b as):∀ c ∈ as,(a:Int)≤c∧c < (b:Int):=by
 induction h with
 | nil=>intro c d;cases d
 | snoc h k e i j =>
  intro c d;have h1:=h.le;have h2:=k.le;rcases List.mem_append.1 d with d | d
  ·have:=i c d;omega
  ·have:c=_:=List.mem_singleton.1 d
   omega
theorem Gq {ns:List Nd}{c:Int}(t:List Nd)(h0:0≤c)(h:c < (ns.length:Int)):lg (ns ++ t) c=lg ns c:=by
 unfold lg;have h1:c.toNat < ns.length:=by omega
 simp [amJ,List.getElem?_append_left h1]
theorem vw.mono {ns:List Nd}{n:Nd}(h:vw ns n)(b:Ids n.kids ns.length)(t:List Nd):vw (ns ++ t) n:=by
 unfold vw at h ⊢
 rw [← h]
 congr 1
 apply List.map_congr_left
 intro c a;exact Gq t (b c a).1 (b c a).2
theorem mE.add {ns:List Nd}{n:Nd}(h:mE ns)(e:Wf ns)(d:vw ns n)(b:Ids n.kids ns.length):mE (ns ++ [n]):=by
 intro i m hi;rcases Nat.lt_or_ge i ns.length with h1 | h1
 ·rw [List.getElem?_append_left h1] at hi
  refine (h i m hi).mono (fun c a=>?_) _
  have:=e i m hi c a
  omega
 ·rw [List.getElem?_append_right h1] at hi
  have h2:i - ns.length=0:=by
   rcases Nat.eq_zero_or_pos (i - ns.length) with h2 | h2
   ·exact h2
   ·rw [List.getElem?_eq_none (by simp;omega)] at hi;cases hi
  rw [h2] at hi
  have:n=m:=by simpa using hi
  subst this;exact d.mono b _
def pE (q:Nat × Bool):Bool:=iT q.1 && !(q.1 == 1 && q.2)
def El.p:El→Nat × Bool→Bool
 | .expr=>pE
 | .put=>fun q=>q.1 == 25
 | .param=>fun q=>q.1 == 34
def Job.p:Job→Nat × Bool→Bool
 | .put=>fun q=>q.1 == 25
 | .param=>fun q=>q.1 == 34
 | .typ=>fun q=>kg q.1
 | .list e=>e.p
 | .lI e _=>e.p
 | _=>pE
def Job.many:Job→Bool
 | .list _=>true
 | .lI _ _=>true
 | _=>false
structure Grown (lo:Nat) (ns0:List Nd) (p:Nat × Bool→Bool) (many:Bool) (as:List Int) (ns:List Nd):Prop where
 ok:mE ns
 wf:Wf ns
 more:∃ t,ns=ns0 ++ t
 fo:Fo ns lo ns.length as
 all:∀ a ∈ as,p (lg ns a)=true
 ne:as ≠ []
 one:many=false→as=[hd as]
def Seg (lo:Nat)(ns0:List Nd)(p:Nat × Bool→Bool)(many:Bool)(r:Option j5):Prop:=∀ as k ns,r=some (.ok as k ns)→Grown lo ns0 p many as ns
theorem Seg.bad {lo k:Nat}{ns0:List Nd}{p:Nat × Bool→Bool}{many:Bool}:Seg lo ns0 p many (some (.bad k)):=fun as k ns e=>by injection e with e;cases e
theorem Seg.none {lo:Nat}{ns0:List Nd}{p:Nat × Bool→Bool}{many:Bool}:Seg lo ns0 p many none:=fun as k ns e=>by cases e
theorem Seg.add {lo k:Nat}{ns0 ns:List Nd}{p:Nat × Bool→Bool}{many:Bool}(n:Nd)(j:mE ns)(d:Wf ns)(r:∃ t,ns=ns0 ++ t)(b:Fo ns lo ns.length n.kids)(u:vw ns n)(v:p (n.kind,decide (n.n < 0))=true):Seg lo ns0 p many (Mist.add n k ns):=by
 intro as x w e;injection e with e
 injection e with f g i
 subst f;subst g;subst i;have hi:Ids n.kids ns.length:=fun c m=>by have:=b.ids c m;omega
 have q:(ns ++ [n])[ns.length]? = some n:=by simp
 refine⟨j.add d u hi,d.add hi,kL r ⟨[n],rfl⟩,?_,fun a h=>?_,by simp,fun _=>rfl⟩
 ·rw [amQ,amV];exact Fo.one (b.mono _) q
 ·have:a=_:=List.mem_singleton.1 h
  subst this;unfold lg
  simpa [amJ] using v
theorem Seg.give {lo k:Nat}{ns:List Nd}{p:Nat × Bool→Bool}{many:Bool}{as:List Int}(f:mE ns)(j:Wf ns)(g:Fo ns lo ns.length as)(i:∀ a ∈ as,p (lg ns a)=true)(h:as ≠ [])(h1:many=false→as=[hd as]):Seg lo ns p many (some (.ok as k ns)):=by
 intro as n m e;injection e with e
 injection e with b c d
 subst b;subst c;subst d;exact⟨f,j,gX _,g,i,h,h1⟩
theorem Seg.need {l:List Tok}{t:Bs}{k lo:Nat}{ns0:List Nd}{p:Nat × Bool→Bool}{many:Bool}{f:Option j5}(h:tx l k=t→Seg lo ns0 p many f):Seg lo ns0 p many (Mist.need l t k f):=by
 unfold Mist.need;split
 ·rename_i e;exact h e
 ·exact Seg.bad
theorem Seg.eF {l:List Tok}{c k lo:Nat}{ns0:List Nd}{p:Nat × Bool→Bool}{many:Bool}{f:Option j5}(h:(tg l k).kind=c→Seg lo ns0 p many f):Seg lo ns0 p many (Mist.eF l c k f):=by
 unfold Mist.eF;split
 ·rename_i e;exact h e
 ·exact Seg.bad
theorem Seg.thn {lo a:Nat}{ns0 b:List Nd}{p p1:Nat × Bool→Bool}{many many1:Bool}{r:Option j5}{f:List Int→Nat→List Nd→Option j5}(h:Seg a b p1 many1 r)(c:∀ as k ns,r=some (.ok as k ns)→Grown a b p1 many1 as ns→Seg lo ns0 p many (f as k ns)):Seg lo ns0 p many (Mist.thn r f):=by
 cases r with
 | none=>exact Seg.none
 | some x =>
  cases x with
  | bad k=>exact Seg.bad
  | ok as k ns=>exact c as k ns rfl (h as k ns rfl)
theorem Seg.on {lo:Nat}{ns0 a:List Nd}{p:Nat × Bool→Bool}{many:Bool}{r:Option j5}(h:Seg lo a p many r)(b:∃ t,a=ns0 ++ t):Seg lo ns0 p many r:=fun as k ns e =>
 let g:=h as k ns e
 ⟨g.ok,g.wf,kL b g.more,g.fo,g.all,g.ne,g.one⟩
theorem Seg.imp {lo:Nat}{ns0:List Nd}{p q:Nat × Bool→Bool}{many:Bool}{r:Option j5}(h:Seg lo ns0 p many r)(c:∀ x,p x=true→q x=true):Seg lo ns0 q many r:=fun as k ns e =>
 let g:=h as k ns e
 ⟨g.ok,g.wf,g.more,g.fo,fun a b=>c _ (g.all a b),g.ne,g.one⟩
structure KQ (l:List Tok):Prop where
 kind:∀ t ∈ l,Mist.kind t.text=t.kind
 at_:∀ t ∈ l,0≤t.at_∧t.at_≤2000
section
variable {l:List Tok} {en:Int} (hT:KQ l)
include hT
omit hT in
theorem Sy:isName []=false:=by decide
omit hT in
theorem qF {ns:List Nd}{n:Nd}{p:Nat × Bool→Bool}(h:∀ i q,p q=true→yD n i q=true):∀ (L:List Int) i,(∀ a ∈ L,p (lg ns a)=true)→uP n i (L.map (lg ns))=true
 | [],_,_=>rfl
 | a :: r,i,ha=>by
  rw [List.map_cons,uP,h i _ (ha a (List.mem_cons_self ..)),qF h r (i+1) (fun b c=>ha b (List.mem_cons_of_mem _ c))];rfl
def known (K:Nat):Bool:=iT K || K == 25 || kg K || K == 34 || fM K
omit hT in
theorem iV {K:Nat}(hK:iM K=false):(iM K == isName [])=true∧(iM K || ([]:Bs).isEmpty)=true:=by
 rw [Sy,hK];exact⟨rfl,rfl⟩
omit hT in
omit hT in
theorem ab7 {K:Nat}(h:6≤K∧K≤18):(K ≠ 24∧K ≠ 41∧K ≠ 34∧K ≠ 33∧K ≠ 40∧K ≠ 42)∧known K=true∧iM K=false∧(∀ a b:Int,kH ⟨K,[],0,[a,b],0⟩=true)∧(∀ as,gL ⟨K,[],0,as,0⟩=true)∧pE (K,decide ((0:Int) < 0))=true:=by
 have:K=6∨K=7∨K=8∨K=9∨K=10∨K=11∨K=12∨K=13∨K=14∨K=15∨K=16∨K=17∨K=18:=by omega
 rcases this with rfl | rfl | rfl | rfl | rfl | rfl | rfl | rfl | rfl | rfl | rfl | rfl | rfl <;> exact⟨by decide,by decide,by decide,fun _ _=>rfl,fun _=>rfl,by decide⟩
omit hT in
theorem Fo.more {ns c:List Nd}{a b:Nat}{as:List Int}(h:Fo ns a b as)(k:∃ t,c=ns ++ t):Fo c a b as:=by
 obtain⟨t,rfl⟩:=k;exact h.mono t
omit hT in
theorem yE {ns d:List Nd}{a b:Nat}{as:List Int}{p:Nat × Bool→Bool}(h:Fo ns a b as)(g:b≤ns.length)(f:∀ c ∈ as,p (lg ns c)=true)(k:∃ t,d=ns ++ t):∀ c ∈ as,p (lg d c)=true:=by
 obtain⟨t,rfl⟩:=k;intro c e
 have:=h.ids c e
 rw [Gq t (by omega) (by omega)];exact f c e
omit hT in
omit hT in
omit hT in
omit hT in
theorem Fo.nil_eq {ns:List Nd}{a b:Nat}{as:List Int}(h:Fo ns a b as)(e:as=[]):a=b:=by
 cases h with
 | nil=>rfl
 | snoc _ _ _=>simp at e
end
end Mist
namespace Mist
theorem Fo.each {ns:List Nd}{a b:Nat}{as:List Int}(h:Fo ns a b as):∀ i,a≤i→i < b→∃ n m,ns[i]? = some n∧a≤m∧Fo ns m i n.kids:=by
 induction h with
 | nil=>intro i h1 h2;omega
 | @snoc a m b as n h k e i j =>
  intro x h1 h2;rcases Nat.lt_or_ge x m with h3 | h3
  ·exact i x h1 h3
  ·rcases Nat.lt_or_ge x b with h4 | h4
   ·obtain⟨g,f,c,q,d⟩:=j x h3 h4;exact⟨g,f,c,by have:=h.le;omega,d⟩
   ·have:x=b:=by omega
    subst this;exact⟨n,m,e,h.le,k⟩
theorem Fo.inv {ns:List Nd}{a c:Nat}{f:List Int}(h:Fo ns a c f):∀ as x,f=as ++ [x]→∃ m b n,c=b+1∧x=(b:Int)∧Fo ns a m as∧Fo ns m b n.kids∧ns[b]? = some n:=by
 cases h with
 | nil=>intro as x e;simp at e
 | @snoc a m b as' n h k e =>
  intro as x g;obtain⟨rfl,d⟩:=List.append_inj' g rfl;injection d with d
  exact⟨m,b,n,rfl,d.symm,h,k,e⟩
theorem Fo.uniq {ns:List Nd}{a b:Nat}{as:List Int}(h:Fo ns a b as):∀ c,Fo ns c b as→a=c:=by
 induction h with
 | nil a=>intro c f;exact (f.nil_eq rfl).symm
 | @snoc a m b as n h k e i j =>
  intro c f;obtain⟨r,g,w,u,v,h1,q,d⟩:=f.inv as b rfl
  have:g=b:=by omega
  subst this;rw [e] at d
  injection d with d
  subst d
  have:=j r q
  subst this;exact i c h1
theorem Fo.apart {ns:List Nd}{a b:Nat}{as:List Int}(h:Fo ns a b as):∀ i n,a≤i→i < b→ns[i]? = some n→∀ c ∈ n.kids,c ∉ as:=by
 induction h with
 | nil=>intro i n h1 h2;omega
 | @snoc a m b as n h k e ih jh =>
  intro x v h1 h2 f c j g
  have r:c < (x:Int):=by
   obtain⟨w,u,d,h3,q⟩:=(Fo.snoc h k e).each x h1 h2;rw [f] at d;injection d with d;subst d
   exact (q.ids c j).2
  rcases List.mem_append.1 g with g | g
  ·have h4:=h.ids c g;rcases Nat.lt_or_ge x m with h3 | h3
   ·exact ih x v h1 h3 f c j g
   ·rcases Nat.lt_or_ge x b with h5 | h5
    ·obtain⟨w,u,d,h6,q⟩:=k.each x h3 h5;rw [f] at d;injection d with d;subst d
     have:=q.ids c j
     omega
    ·have:x=b:=by omega
     subst this;rw [e] at f;injection f with f;subst f
     have:=k.ids c j
     omega
  ·have:c=(b:Int):=List.mem_singleton.1 g
   omega
theorem Fo.parent {ns:List Nd}{a b:Nat}{as:List Int}(h:Fo ns a b as):∀ i,a≤i→i < b→(i:Int) ∈ as∨∃ j n,a≤j∧j < b∧ns[j]? = some n∧(i:Int) ∈ n.kids:=by
 induction h with
 | nil=>intro i h1 h2;omega
 | @snoc a m b as n h k e ih jh =>
  intro x h1 h2;have h9:=h.le;have h8:=k.le;rcases Nat.lt_or_ge x m with h3 | h3
  ·rcases ih x h1 h3 with h4 | ⟨j,q,c,f,d,g⟩
   ·exact .inl (List.mem_append_left _ h4)
   ·exact .inr ⟨j,q,c,by omega,d,g⟩
  ·rcases Nat.lt_or_ge x b with h5 | h5
   ·rcases jh x h3 h5 with h4 | ⟨j,q,c,f,d,g⟩
    ·exact .inr ⟨b,n,by omega,by omega,e,h4⟩
    ·exact .inr ⟨j,q,by omega,by omega,d,g⟩
   ·have:x=b:=by omega
    subst this;exact .inl (List.mem_append_right _ (List.mem_singleton.2 rfl))
theorem Fo.GI {ns:List Nd}{n:Nat}{as:List Int}(h:Fo ns 0 n as){i j:Nat}{x y:Nd}(hi:i < n)(m:j < n)(a:ns[i]? = some x)(g:ns[j]? = some y){c:Int}(b:c ∈ x.kids)(hy:c ∈ y.kids):i=j:=by
 have d:∀ {i j:Nat} {x y:Nd},i < n→j < n→ns[i]? = some x→ns[j]? = some y→c ∈ x.kids→c ∈ y.kids→¬ i < j:=by
  intro i j x y hi m a g b hy q;obtain⟨A,w,e,_,u⟩:=h.each i (amN _) hi;obtain⟨B,v,f,_,r⟩:=h.each j (amN _) m;rw [a] at e;injection e with e;subst e
  rw [g] at f;injection f with f;subst f
  have h1:=u.ids c b;have h2:=r.ids c hy;rcases Nat.lt_or_ge i v with h3 | h3
  ·omega
  ·exact r.apart i x h3 q a c b hy
 rcases Nat.lt_trichotomy i j with h1 | h1 | h1
 ·exact absurd h1 (d hi m a g b hy)
 ·exact h1
 ·exact absurd h1 (d m hi g a hy b)
theorem Fo.len {ns:List Nd}{a b:Nat}{as:List Int}(h:Fo ns a b as):as.length+a≤b:=by
 induction h with
 | nil=>simp
 | snoc h k e i j=>have:=k.le;rw [amQ];simp;omega
def BQ (q:Nat→Bool)(out:List Int)(l:List Int)(b:Int):Option Int :=
 l.foldr (fun c (o:Option Int)=>o.bind fun a=>if a < 0∨c ≠ a∨(!q a.toNat)=true then none else some (a - out.getD a.toNat 0)) (some b)
theorem DZ (out l:List Int)(b:Int):FN out l b=BQ (fun _=>true) out l b:=by
 unfold FN BQ
 congr 1
 funext c o
 congr 1
 funext a
 by_cases h1:c=a <;> by_cases h2:a < 0 <;> simp [h1,h2]
theorem Ci (t:Tr)(a:List Int):J9 t a=BQ (fun i=>fM (nd t i).kind) a t.items ((t.nodes.length:Int) - 1):=rfl
theorem GR (q:Nat→Bool)(out l:List Int)(c b:Int):BQ q out (l ++ [c]) b=if b < 0∨c ≠ b∨(!q b.toNat)=true then none else BQ q out l (b - out.getD b.toNat 0):=by
 have d:∀ l:List Int,l.foldr (fun c (o:Option Int)=>o.bind fun a=>if a < 0∨c ≠ a∨(!q a.toNat)=true then none else some (a - out.getD a.toNat 0)) none=none:=by
  intro l;induction l with
  | nil=>rfl
  | cons a r e=>rw [List.foldr_cons,e];rfl
 unfold BQ;rw [List.foldr_append];simp only [List.foldr_cons,List.foldr_nil,Option.bind_some];split
 ·exact d l
 ·rfl
def IE (ns:List Nd)(out:List Int)(k:Nat):Prop:=out.length=k∧∀ i,i < k→∃ n m,ns[i]? = some n∧m≤i∧out.getD i 0=(i:Int)+1 - m∧Fo ns m i n.kids
theorem GN {q:Nat→Bool}{ns:List Nd}{out:List Int}{k:Nat}(u:IE ns out k):∀ (r:List Int) (b a:Int),BQ q out r.reverse b=some a→b < (k:Int)→-1≤b→-1≤a∧a≤b∧Fo ns (a+1).toNat (b+1).toNat r.reverse∧∀ c ∈ r,q c.toNat=true
 | [],b,a,h,h1,h2=>by
  have:b=a:=amR h
  subst this;exact⟨h2,Int.le_refl _,.nil _,fun c d=>nomatch d⟩
 | c :: r,b,a,h,h1,h2=>by
  rw [List.reverse_cons,GR] at h
  split at h
  ·cases h
  ·rename_i d
   have C:0≤b:=by omega
   have f:c=b:=by
    apply Classical.byContradiction;intro e;exact d (.inr (.inl e))
   have E:q b.toNat=true:=by
    cases e:q b.toNat
    ·exact absurd (.inr (.inr (by simp [e]))) d
    ·rfl
   clear d;obtain⟨n,m,e,G,g,D⟩:=u.2 b.toNat (by omega);rw [g] at h
   obtain⟨A,F,j,B⟩:=GN u r _ a h (by omega) (by omega)
   refine⟨A,by omega,?_,?_⟩
   ·rw [List.reverse_cons];have v:(b+1).toNat=b.toNat+1:=by omega
    have w:c=(b.toNat:Int):=by omega
    rw [v,w];refine .snoc (m:=m) ?_ D e;have y:(b - ((b.toNat:Int)+1 - (m:Int))+1).toNat=m:=by omega
    rw [y] at j
    exact j
   ·intro x i;rcases List.mem_cons.1 i with rfl | i
    ·rw [f];exact E
    ·exact B x i
theorem Pg {q:Nat→Bool}{ns:List Nd}{out:List Int}{k:Nat}(y:IE ns out k){a b:Nat}{as:List Int}(h:Fo ns a b as):b≤k→(∀ c ∈ as,q c.toNat=true)→BQ q out as ((b:Int) - 1)=some ((a:Int) - 1):=by
 induction h with
 | nil=>intro _ _;rfl
 | @snoc a m b as n h kf e ih jh =>
  intro A i;have h9:=h.le;have h8:=kf.le;rw [GR];have r:((b+1:Nat):Int) - 1=(b:Int):=by omega
  rw [r,amS];have d:=i (b:Int) (List.mem_append_right _ (List.mem_singleton.2 rfl));rw [amS] at d
  rw [if_neg (by rintro (h1 | h1 | h1)
                 ·omega
                 ·exact h1 rfl
                 ·rw [d] at h1;cases h1)]
  obtain⟨B,j,f,x,g,w⟩:=y.2 b (by omega);rw [e] at f;injection f with f;subst f
  have:=w.uniq m kf
  subst this;rw [g];have u:(b:Int) - ((b:Int)+1 - (j:Int))=(j:Int) - 1:=by omega
  rw [u];exact ih (by omega) (fun c v=>i c (List.mem_append_left _ v))
theorem Kg {ns:List Nd}{out:List Int}{k:Nat}(a:IE ns out k){n:Nd}(e:ns[k]? = some n){m:Nat}(h:m≤k)(g:Fo ns m k n.kids):IE ns (out ++ [(out.length:Int) - ((m:Int) - 1)]) (k+1):=by
 refine⟨by rw [amQ,a.1];rfl,fun i hi=>?_⟩
 rcases Nat.lt_or_ge i k with h1 | h1
 ·obtain⟨q,j,f,c,d,b⟩:=a.2 i h1
  refine⟨q,j,f,c,?_,b⟩
  rw [← d];simp [amJ,List.getElem?_append_left (show i < out.length by rw [a.1];exact h1)]
 ·have:i=k:=by omega
  subst this
  refine⟨n,m,e,h,?_,g⟩
  rw [a.1];simp [amJ,a.1]
  omega
theorem H_:∀ l:List Nd,l.foldl nD none=none
 | []=>rfl
 | _ :: r=>H_ r
theorem Hz {ns:List Nd}:∀ (j l1:List Nd) (out c:List Int),ns=l1 ++ j→IE ns out l1.length→j.foldl nD (some out)=some c→IE ns c ns.length
 | [],l1,out,c,e,hs,h=>by
  have:out=c:=amR h
  subst this;rw [e,List.append_nil];rw [e,List.append_nil] at hs;exact hs
 | n :: r,l1,out,c,e,hs,h=>by
  have en:ns[l1.length]? = some n:=by rw [e];simp
  rw [List.foldl_cons] at h
  unfold nD at h
  rw [Option.bind_some,DZ] at h
  rcases i:BQ (fun _=>true) out n.kids ((out.length:Int) - 1) with _ | a
  ·rw [i] at h;rw [Option.map_none] at h
   have:=H_ r
   unfold nD at this
   rw [this] at h;cases h
  ·rw [i] at h
   have d:=i;rw [← List.reverse_reverse n.kids] at d
   obtain⟨u,v,f,_⟩:=GN hs n.kids.reverse _ a d (by rw [hs.1];omega) (by omega);rw [List.reverse_reverse,hs.1] at f
   have m:((l1.length:Int) - 1+1).toNat=l1.length:=by omega
   rw [m] at f
   have q:a=(((a+1).toNat:Nat):Int) - 1:=by omega
   have g:=f.le;have b:=Kg hs en g f;rw [← q] at b
   exact Hz r (l1 ++ [n]) _ c (by rw [e];simp) (by rw [amQ];exact b) h
theorem P_ {ns:List Nd}(a:∀ i,i < ns.length→∃ n m,ns[i]? = some n∧Fo ns m i n.kids):∀ (f l1:List Nd) (out:List Int),ns=l1 ++ f→IE ns out l1.length→∃ j,f.foldl nD (some out)=some j
 | [],l1,out,e,hs=>⟨out,rfl⟩
 | n :: r,l1,out,e,hs=>by
  have en:ns[l1.length]? = some n:=by rw [e];simp
  obtain⟨u,m,c,d⟩:=a l1.length (by rw [e];simp);rw [en] at c;injection c with c;subst c
  have h:=Pg (q:=fun _=>true) hs d (amL _) (fun _ _=>rfl);rw [List.foldl_cons]
  have g:nD (some out) n=some (out ++ [(out.length:Int) - ((m:Int) - 1)]):=by
   unfold nD;rw [Option.bind_some,DZ,hs.1,h,Option.map_some]
  rw [g];have b:=Kg hs en d.le d;exact P_ a r (l1 ++ [n]) _ (by rw [e];simp) (by rw [amQ];exact b)
theorem Ic (ns:List Nd):IE ns [] 0:=⟨rfl,fun i hi=>by omega⟩
structure KO (t:Tr):Prop where
 fo:Fo t.nodes 0 t.nodes.length t.items
 item:∀ c ∈ t.items,fM (nd t c.toNat).kind=true
theorem KO.sizes {t:Tr}(h:Fo t.nodes 0 t.nodes.length t.items):∃ a,Ma t=some a∧IE t.nodes a t.nodes.length:=by
 obtain⟨a,b⟩:=P_ (ns:=t.nodes) (fun i hi=>by obtain⟨n,m,e,_,f⟩:=h.each i (amN _) hi;exact⟨n,m,e,f⟩) t.nodes [] [] rfl (Ic _);exact⟨a,b,Hz t.nodes [] [] a rfl (Ic _) b⟩
theorem Dk (t:Tr):N_ t=true↔KO t∧∀ i,i < t.nodes.length→qO t i=true:=by
 constructor
 ·intro h;unfold N_ at h
  rcases a:Ma t with _ | e
  ·rw [a] at h
   have h0:t.nodes.length=0:=by simpa using h
   have h1:t.nodes=[]:=List.eq_nil_of_length_eq_zero h0;unfold Ma at a;rw [h1] at a;cases a
  ·rw [a] at h
   simp only [amU,beq_iff_eq,amT,List.mem_range] at h
   obtain⟨h1,h2⟩:=h;have d:IE t.nodes e t.nodes.length:=Hz t.nodes [] [] e rfl (Ic _) a;rw [Ci,← List.reverse_reverse t.items] at h2
   obtain⟨_,_,b,j⟩:=GN d t.items.reverse _ _ h2 (by omega) (by omega);rw [List.reverse_reverse] at b
   have g:((t.nodes.length:Int) - 1+1).toNat=t.nodes.length:=by omega
   rw [g] at b
   exact⟨⟨b,fun c m=>j c (List.mem_reverse.2 m)⟩,h1⟩
 ·rintro⟨⟨f,hi⟩,n⟩
  obtain⟨e,a,d⟩:=KO.sizes f;unfold N_;rw [a];simp only [amU,beq_iff_eq,amT,List.mem_range]
  refine⟨n,?_⟩
  rw [Ci,Pg d f (amL _) hi];rfl
end Mist
