/-
  A part of the proof.
-/
import Derived.Test.YtalghggmkojblaaGreatDoorS04
set_option linter.all false
set_option maxRecDepth 100000
namespace Mist
theorem Ee (s:Bs):∀ (l:List Tok) (a:Nat),Placed s a l→∀ t ∈ l,Mist.kind t.text=t.kind∧0≤t.at_∧t.at_≤(s.length:Int)∧t.text.length≤s.length
 | [],_,_,t,b=>by cases b
 | x :: r,a,h,t,b=>by
  obtain⟨h1,h2,h3,h4,h5⟩:=h;rcases List.mem_cons.1 b with rfl | b
  ·have h6:(first (s.drop a)).1 ≠ 0:=by rw [h3];exact h4
   have h7:=IX _ h6;have h8:=(sV _ h6).2;rw [h3] at h7 h8
   rw [List.length_drop] at h8
   exact⟨h7,by omega,by omega,by simp only at h8;omega⟩
  ·exact Ee s r _ h5 t b
theorem J6 {s:Bs}{l:List Tok}(h:Mist.read s=(l,0,0)):KQ l∧(∀ t ∈ l,t.text.length≤2000)∧s.length≤2000:=by
 have h0:(Mist.read s).2.2=0:=by rw [h]
 have c:=PE s h0;rw [h] at c
 have d:s.length≤2000:=by
  rcases Nat.lt_or_ge 2000 s.length with h1 | h1
  ·exfalso
   have e:check s=(2000,5):=by unfold check;rw [if_pos h1]
   have:Mist.read s=([],2000,5):=by unfold Mist.read;rw [e];rfl
   rw [this] at h0
   cases h0
  ·exact h1
 have b:=Ee s l _ c;exact⟨⟨fun t a=>(b t a).1,fun t a=>⟨(b t a).2.1,by have:=(b t a).2.2.1;omega⟩⟩,fun t a=>Nat.le_trans (b t a).2.2.2 d,d⟩
theorem Fo.few {ns:List Nd}{a b:Nat}{as:List Int}(h:Fo ns a b as):as.length+a≤b:=by
 induction h with
 | nil=>simp
 | snoc h k e i j=>rw [amQ,amV];have:=Fo.le k;omega
theorem ac_ {t:Tr}{x:Nd}(a:kH x=true):sized t x=TY t x:=by
 unfold sized TY;by_cases b:x.kind=40
 ·rw [if_pos b,if_pos b];rw [amK];simp [within];omega
 rw [if_neg b,if_neg b];by_cases h46:x.kind=46
 ·simp only [h46];simp [kH,h46] at a
  by_cases h7:x.n=7
  ·simp [h7] at a;simp [h7,a]
  ·by_cases h8:x.n=8
   ·simp [h8]
   ·simp [h7,h8] at a;simp [a]
 ·simp [h46]
theorem Pj {T:Tr}(t:mE T.nodes)(u:Wf T.nodes)(hF:Fo T.nodes 0 T.nodes.length T.items){i:Nat}{x:Nd}(g:T.nodes[i]? = some x) :
  x.kids.length≤i∧sized T x=TY T x∧(x.kind=40→∃ k0 j:Nat,x.kids=[(k0:Int),(j:Int)]∧k0 < T.nodes.length∧j < T.nodes.length∧(-9999≤(nd T k0).n∧(nd T k0).n≤9999)∧(-9999≤(nd T j).n∧(nd T j).n≤9999)):=by
 have hi:i < T.nodes.length:=(amG.1 g).1;have d:=t i x g;unfold vw okB at d
 simp only [amU] at d
 obtain⟨⟨⟨⟨⟨⟨_,_⟩,_⟩,v⟩,_⟩,_⟩,h⟩:=d
 refine⟨?_,ac_ v,fun w=>?_⟩
 ·obtain⟨n,m,B,_,y⟩:=hF.each i (amN _) hi;obtain rfl:=amR (B.symm.trans g)
  have:=y.few
  omega
 ·have h2:x.kids.length=2:=by simpa [kH,w] using v
  obtain⟨a,b,e⟩:∃ a b,x.kids=[a,b]:=by
   rcases f:x.kids with _ | ⟨a,_ | ⟨b,_ | ⟨c,r⟩⟩⟩
   ·rw [f] at h2;simp at h2
   ·rw [f] at h2;simp at h2
   ·exact⟨a,b,rfl⟩
   ·rw [f] at h2;simp at h2
  have k:=u i x g a (by rw [e];simp);have l:=u i x g b (by rw [e];simp);rw [e] at h
  simp only [List.map_cons,List.map_nil,uP,yD,ku,w,amU] at h
  have num:∀ c:Int,0≤c→c < (i:Int)→(lg T.nodes c).1=1→-9999≤(nd T c.toNat).n∧(nd T c.toNat).n≤9999:=by
   intro c h0 h1 f;have A:c.toNat < T.nodes.length:=by omega
   have q:(nd T c.toNat).kind=1:=f;have d:=t c.toNat _ (AP A);unfold vw okB at d
   simp only [amU] at d
   have C:=d.1.1.2
   simpa [gL,q,within] using C
  refine⟨a.toNat,b.toNat,by rw [e,Int.toNat_of_nonneg k.1,Int.toNat_of_nonneg l.1],by omega,by omega,num a k.1 k.2 ?_,num b l.1 l.2 ?_⟩
  ·have:=h.1.1;simpa using this
  ·have:=h.2.1;simpa using this
end Mist
namespace Mist
def n_ (t:Tok):Nat × Bs:=(t.kind,t.text)
def qA (l m:List Tok):Bool:=decide (l.map n_=m.map n_)
def qR (a b:Bs):Bool × Nat :=
 if (Mist.read a).2.2 ≠ 0 then (false,(Mist.read a).2.2) else if (Mist.read b).2.2 ≠ 0 then (false,(Mist.read b).2.2) else (qA (Mist.read a).1 (Mist.read b).1,0)
theorem PY (a b:Bs)(h:¬ (Mist.read a).2.2=0):qR a b=(false,(Mist.read a).2.2):=by unfold qR;rw [if_pos h]
theorem LX (a b:Bs)(h:(Mist.read a).2.2=0)(h2:¬ (Mist.read b).2.2=0):qR a b=(false,(Mist.read b).2.2):=by unfold qR;rw [if_neg (by simpa using h),if_pos h2]
theorem Eh (a b:Bs)(h:(Mist.read a).2.2=0)(h2:(Mist.read b).2.2=0):qR a b=(qA (Mist.read a).1 (Mist.read b).1,0):=by unfold qR;rw [if_neg (by simpa using h),if_neg (by simpa using h2)]
theorem Wq (l m:List Tok)(h:¬ l.length=m.length):qA l m=false:=by
 unfold qA;rw [decide_eq_false_iff_not];intro e
 have:=congrArg List.length e
 simp at this
 exact h this
theorem Nn (l m:List Tok)(k:Nat)(a:k < l.length)(b:k < m.length)(h:n_ (tg l k) ≠ n_ (tg m k)):qA l m=false:=by
 unfold qA;rw [decide_eq_false_iff_not];intro e
 have:=congrArg (fun x=>x[k]?) e
 simp only [List.getElem?_map,amF a,amF b,Option.map_some,Option.some.injEq] at this
 rw [Ki l k a,Ki m k b] at h
 exact h this
theorem Wp (l m:List Tok)(a:l.length=m.length)(h:∀ k,k < l.length→n_ (tg l k)=n_ (tg m k)):qA l m=true:=by
 unfold qA;rw [decide_eq_true_eq];apply List.ext_getElem
 ·simp [a]
 ·intro i h1 h2;simp only [List.length_map] at h1 h2
  have:=h i h1
  rw [Ki l i h1,Ki m i h2] at this
  simpa using this
theorem KZ (t u:Tok):n_ t=n_ u↔t.kind=u.kind∧t.text=u.text:=by simp [n_]
end Mist
namespace Mist
def ah:List (Bs × Nat × Bs)→Bs
 | []=>[]
 | (g,_,t) :: r=>g ++ (t ++ ah r)
def nM:Nat→List (Bs × Nat × Bs)→List Tok
 | _,[]=>[]
 | a,(g,k,t) :: r=>⟨k,t,((a+g.length:Nat):Int)⟩ :: nM (a+g.length+t.length) r
theorem qM (s:Bs):∀ (r:List Tok) (f a:Nat) (b:List Tok),s.length < f+a→b.length+r.length≤800→Placed s a r→iq f s a b=(b ++ r,0,0)
 | [],f,a,b,hf,_,h=>by
  have i:s.length≤a:=h
  cases f with
  | zero=>rw [iq];simp
  | succ f=>rw [uF f s a b i];simp
 | t :: r,f,a,b,hf,hn,h=>by
  obtain⟨h1,h2,h3,h4,h5⟩:=h;obtain⟨f,rfl⟩:∃ g,f=g+1:=⟨f - 1,by omega⟩;have c:¬ (first (s.drop a)).1=0:=by rw [h3];exact h4
  have d:=sV _ c;rw [sD f s a b (by omega) c (by simp at hn;omega)];rw [h3] at d ⊢
  have e:(⟨(t.kind,t.text).1,(t.kind,t.text).2,(a:Int)⟩:Tok)=t:=by
   cases t;simp at h2 ⊢;exact h2.symm
  rw [e]
  have:=qM s r f (a+t.text.length+skip (s.drop (a+t.text.length))) (b ++ [t]) (by simp at d;omega) (by simp at hn ⊢;omega) h5
  simp only [List.append_assoc,List.singleton_append] at this
  exact this
theorem La (a:Nat)(b:List (Bs × Nat × Bs)):(nM a b).length=b.length:=by
 induction b generalizing a with
 | nil=>rfl
 | cons x r c=>obtain⟨g,k,t⟩:=x;simp [nM,c]
theorem uL (p:UInt8→Bool)(t r:Bs)(h:t.all p=true)(d:r=[]∨∃ c r',r=c :: r'∧p c=false):aZ p (t ++ r)=t.length:=by
 have e:∀ b ∈ t,p b=true:=by simpa using h
 unfold aZ;rw [List.takeWhile_append_of_pos e];rcases d with rfl | ⟨c,r',rfl,a⟩
 ·simp
 ·rw [List.takeWhile_cons_of_neg (by simp [a])];simp
theorem YN:∀ g ∈ signs,g.length≤2:=by decide
theorem Yd (g:Bs)(x y:UInt8)(r:Bs)(h:g.length≤2):rR g (x :: y :: r)=rR g [x,y]:=by
 unfold rR
 match g,h with
 | [],_=>rfl
 | [a],_=>simp [List.isPrefixOf]
 | [a,b],_=>simp [List.isPrefixOf]
theorem find_congr {p q:Bs→Bool}:∀ (l:List Bs),(∀ g ∈ l,p g=q g)→l.find? p=l.find? q
 | [],_=>rfl
 | g :: l,h=>by
  rw [List.find?_cons,List.find?_cons,h g (by simp),find_congr l (fun x a=>h x (by simp [a]))]
theorem Ud (x y:UInt8)(r:Bs):lM (x :: y :: r)=lM [x,y]:=by
 unfold lM;exact find_congr signs fun g a=>Yd g x y r (YN g a)
theorem om (x y:UInt8)(r:Bs)(b:fF x=false)(hd:bJ x=false):first (x :: y :: r)=first [x,y]:=by
 have h1:¬ fF (gt (x :: y :: r) 0)=true:=by show ¬ fF x=true;simp [b]
 have h2:¬ bJ (gt (x :: y :: r) 0)=true:=by show ¬ bJ x=true;simp [hd]
 have h3:¬ fF (gt [x,y] 0)=true:=by show ¬ fF x=true;simp [b]
 have h4:¬ bJ (gt [x,y] 0)=true:=by show ¬ bJ x=true;simp [hd]
 have e:=Ud x y r
 cases a:lM [x,y] with
 | none=>rw [mZ _ (by simp) h1 h2 (e.trans a),mZ _ (by simp) h3 h4 a]
 | some g=>rw [m_ _ (by simp) h1 h2 g (e.trans a),m_ _ (by simp) h3 h4 g a]
theorem aX (a b:List (Bs × Nat × Bs)):ah (a ++ b)=ah a ++ ah b:=by
 induction a with
 | nil=>rfl
 | cons x r c=>obtain⟨g,k,t⟩:=x;simp [ah,c]
end Mist
namespace Mist
theorem VN (s t:Bs)(n:Nat)(h:t.length < n)(a:n≤s.length):s.take n ≠ t:=by
 intro e
 have:=congrArg List.length e
 rw [List.length_take] at this
 omega
def items:List (Bs × Tok)→List (Bs × Nat × Bs)
 | []=>[]
 | (g,t) :: r=>(g,t.kind,t.text) :: items r
end Mist
