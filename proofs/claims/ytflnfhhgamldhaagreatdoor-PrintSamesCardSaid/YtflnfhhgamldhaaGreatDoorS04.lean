/-
  A part of the proof.
-/
import Derived.Test.YtflnfhhgamldhaaGreatDoorS03
set_option linter.all false
set_option maxRecDepth 100000
namespace Mist
theorem Fo.each {ns:List Nd}{a b:Nat}{as:List Int}(h:Fo ns a b as):∀ i,a≤i→i < b→∃ n m,ns[i]? = some n∧a≤m∧Fo ns m i n.kids:=by
 induction h with
 | nil=>intro i h1 h2;omega
 | @snoc a m b as n h k e i j =>
  intro x h1 h2;rcases Nat.lt_or_ge x m with h3 | h3
  ·exact i x h1 h3
  ·rcases Nat.lt_or_ge x b with h4 | h4
   ·obtain⟨g,f,c,o,d⟩:=j x h3 h4;exact⟨g,f,c,by have:=h.le;omega,d⟩
   ·have:x=b:=by omega
    subst this;exact⟨n,m,e,h.le,k⟩
theorem Fo.inv {ns:List Nd}{a c:Nat}{f:List Int}(h:Fo ns a c f):∀ as x,f=as ++ [x]→∃ m b n,c=b+1∧x=(b:Int)∧Fo ns a m as∧Fo ns m b n.kids∧ns[b]? = some n:=by
 cases h with
 | nil=>intro as x e;simp at e
 | @snoc a m b as' n h k e =>
  intro as x g;obtain⟨rfl,d⟩:=List.append_inj' g rfl;injection d with d
  exact⟨m,b,n,rfl,d.symm,h,k,e⟩
theorem Fo.uniq {ns:List Nd}{a b:Nat}{as:List Int}(h:Fo ns a b as):∀ c,Fo ns c b as→a=c:=by
 induction h with
 | nil a=>intro c f;exact (f.nil_eq rfl).symm
 | @snoc a m b as n h k e i j =>
  intro c f;obtain⟨q,g,u,r,t,h1,o,d⟩:=f.inv as b rfl
  have:g=b:=by omega
  subst this;rw [e] at d
  injection d with d
  subst d
  have:=j q o
  subst this;exact i c h1
theorem Fo.apart {ns:List Nd}{a b:Nat}{as:List Int}(h:Fo ns a b as):∀ i n,a≤i→i < b→ns[i]? = some n→∀ c ∈ n.kids,c ∉ as:=by
 induction h with
 | nil=>intro i n h1 h2;omega
 | @snoc a m b as n h k e ih jh =>
  intro x t h1 h2 f c j g
  have q:c < (x:Int):=by
   obtain⟨u,r,d,h3,o⟩:=(Fo.snoc h k e).each x h1 h2;rw [f] at d;injection d with d;subst d
   exact (o.ids c j).2
  rcases List.mem_append.1 g with g | g
  ·have h4:=h.ids c g;rcases Nat.lt_or_ge x m with h3 | h3
   ·exact ih x t h1 h3 f c j g
   ·rcases Nat.lt_or_ge x b with h5 | h5
    ·obtain⟨u,r,d,h6,o⟩:=k.each x h3 h5;rw [f] at d;injection d with d;subst d
     have:=o.ids c j
     omega
    ·have:x=b:=by omega
     subst this;rw [e] at f;injection f with f;subst f
     have:=k.ids c j
     omega
  ·have:c=(b:Int):=List.mem_singleton.1 g
   omega
theorem Fo.parent {ns:List Nd}{a b:Nat}{as:List Int}(h:Fo ns a b as):∀ i,a≤i→i < b→(i:Int) ∈ as∨∃ j n,a≤j∧j < b∧ns[j]? = some n∧(i:Int) ∈ n.kids:=by
 induction h with
 | nil=>intro i h1 h2;omega
 | @snoc a m b as n h k e ih jh =>
  intro x h1 h2;have h9:=h.le;have h8:=k.le;rcases Nat.lt_or_ge x m with h3 | h3
  ·rcases ih x h1 h3 with h4 | ⟨j,o,c,f,d,g⟩
   ·exact .inl (List.mem_append_left _ h4)
   ·exact .inr ⟨j,o,c,by omega,d,g⟩
  ·rcases Nat.lt_or_ge x b with h5 | h5
   ·rcases jh x h3 h5 with h4 | ⟨j,o,c,f,d,g⟩
    ·exact .inr ⟨b,n,by omega,by omega,e,h4⟩
    ·exact .inr ⟨j,o,by omega,by omega,d,g⟩
   ·have:x=b:=by omega
    subst this;exact .inl (List.mem_append_right _ (List.mem_singleton.2 rfl))
theorem Fo.Qp {ns:List Nd}{n:Nat}{as:List Int}(h:Fo ns 0 n as){i j:Nat}{x y:Nd}(hi:i < n)(k:j < n)(a:ns[i]? = some x)(g:ns[j]? = some y){c:Int}(b:c ∈ x.kids)(hy:c ∈ y.kids):i=j:=by
 have d:∀ {i j:Nat} {x y:Nd},i < n→j < n→ns[i]? = some x→ns[j]? = some y→c ∈ x.kids→c ∈ y.kids→¬ i < j:=by
  intro i j x y hi k a g b hy m;obtain⟨u,t,e,_,q⟩:=h.each i (ak2 _) hi;obtain⟨v,r,f,_,o⟩:=h.each j (ak2 _) k;rw [a] at e;injection e with e;subst e
  rw [g] at f;injection f with f;subst f
  have h1:=q.ids c b;have h2:=o.ids c hy;rcases Nat.lt_or_ge i r with h3 | h3
  ·omega
  ·exact o.apart i x h3 m a c b hy
 rcases Nat.lt_trichotomy i j with h1 | h1 | h1
 ·exact absurd h1 (d hi k a g b hy)
 ·exact h1
 ·exact absurd h1 (d k hi g a hy b)
theorem Fo.len {ns:List Nd}{a b:Nat}{as:List Int}(h:Fo ns a b as):as.length+a≤b:=by
 induction h with
 | nil=>simp
 | snoc h k e i j=>have:=k.le;rw [ak5];simp;omega
def yQ (q:Nat→Bool)(out:List Int)(l:List Int)(b:Int):Option Int :=
 l.foldr (fun c (o:Option Int)=>o.bind fun a=>if a < 0∨c ≠ a∨(!q a.toNat)=true then none else some (a - out.getD a.toNat 0)) (some b)
theorem Bb (out l:List Int)(b:Int):Dw out l b=yQ (fun _=>true) out l b:=by
 unfold Dw yQ
 congr 1
 funext c o
 congr 1
 funext a
 by_cases h1:c=a <;> by_cases h2:a < 0 <;> simp [h1,h2]
theorem yY (t:Tr)(a:List Int):Ik t a=yQ (fun i=>fM (nd t i).kind) a t.items ((t.nodes.length:Int) - 1):=rfl
theorem ER (q:Nat→Bool)(out l:List Int)(c b:Int):yQ q out (l ++ [c]) b=if b < 0∨c ≠ b∨(!q b.toNat)=true then none else yQ q out l (b - out.getD b.toNat 0):=by
 have d:∀ l:List Int,l.foldr (fun c (o:Option Int)=>o.bind fun a=>if a < 0∨c ≠ a∨(!q a.toNat)=true then none else some (a - out.getD a.toNat 0)) none=none:=by
  intro l;induction l with
  | nil=>rfl
  | cons a r e=>rw [List.foldr_cons,e];rfl
 unfold yQ;rw [List.foldr_append];simp only [List.foldr_cons,List.foldr_nil,Option.bind_some];split
 ·exact d l
 ·rfl
def F3 (ns:List Nd)(out:List Int)(k:Nat):Prop:=out.length=k∧∀ i,i < k→∃ n m,ns[i]? = some n∧m≤i∧out.getD i 0=(i:Int)+1 - m∧Fo ns m i n.kids
theorem EO {q:Nat→Bool}{ns:List Nd}{out:List Int}{k:Nat}(o:F3 ns out k):∀ (r:List Int) (b a:Int),yQ q out r.reverse b=some a→b < (k:Int)→-1≤b→-1≤a∧a≤b∧Fo ns (a+1).toNat (b+1).toNat r.reverse∧∀ c ∈ r,q c.toNat=true
 | [],b,a,h,h1,h2=>by
  have:b=a:=ak6 h
  subst this;exact⟨h2,Int.le_refl _,.nil _,fun c d=>nomatch d⟩
 | c :: r,b,a,h,h1,h2=>by
  rw [List.reverse_cons,ER] at h
  split at h
  ·cases h
  ·rename_i d
   have A:0≤b:=by omega
   have f:c=b:=by
    apply Classical.byContradiction;intro e;exact d (.inr (.inl e))
   have C:q b.toNat=true:=by
    cases e:q b.toNat
    ·exact absurd (.inr (.inr (by simp [e]))) d
    ·rfl
   clear d;obtain⟨n,m,e,E,g,B⟩:=o.2 b.toNat (by omega);rw [g] at h
   obtain⟨w,D,j,y⟩:=EO o r _ a h (by omega) (by omega)
   refine⟨w,by omega,?_,?_⟩
   ·rw [List.reverse_cons];have t:(b+1).toNat=b.toNat+1:=by omega
    have u:c=(b.toNat:Int):=by omega
    rw [t,u];refine .snoc (m:=m) ?_ B e;have v:(b - ((b.toNat:Int)+1 - (m:Int))+1).toNat=m:=by omega
    rw [v] at j
    exact j
   ·intro x i;rcases List.mem_cons.1 i with rfl | i
    ·rw [f];exact C
    ·exact y x i
theorem Mr {q:Nat→Bool}{ns:List Nd}{out:List Int}{k:Nat}(w:F3 ns out k){a b:Nat}{as:List Int}(h:Fo ns a b as):b≤k→(∀ c ∈ as,q c.toNat=true)→yQ q out as ((b:Int) - 1)=some ((a:Int) - 1):=by
 induction h with
 | nil=>intro _ _;rfl
 | @snoc a m b as n h kf e ih jh =>
  intro x i;have h9:=h.le;have h8:=kf.le;rw [ER];have o:((b+1:Nat):Int) - 1=(b:Int):=by omega
  rw [o,ak7];have d:=i (b:Int) (List.mem_append_right _ (List.mem_singleton.2 rfl));rw [ak7] at d
  rw [if_neg (by rintro (h1 | h1 | h1)
                 ·omega
                 ·exact h1 rfl
                 ·rw [d] at h1;cases h1)]
  obtain⟨y,j,f,v,g,u⟩:=w.2 b (by omega);rw [e] at f;injection f with f;subst f
  have:=u.uniq m kf
  subst this;rw [g];have r:(b:Int) - ((b:Int)+1 - (j:Int))=(j:Int) - 1:=by omega
  rw [r];exact ih (by omega) (fun c t=>i c (List.mem_append_left _ t))
theorem Io {ns:List Nd}{out:List Int}{k:Nat}(a:F3 ns out k){n:Nd}(e:ns[k]? = some n){m:Nat}(h:m≤k)(g:Fo ns m k n.kids):F3 ns (out ++ [(out.length:Int) - ((m:Int) - 1)]) (k+1):=by
 refine⟨by rw [ak5,a.1];rfl,fun i hi=>?_⟩
 rcases Nat.lt_or_ge i k with h1 | h1
 ·obtain⟨o,j,f,c,d,b⟩:=a.2 i h1
  refine⟨o,j,f,c,?_,b⟩
  rw [← d];simp [akY,List.getElem?_append_left (show i < out.length by rw [a.1];exact h1)]
 ·have:i=k:=by omega
  subst this
  refine⟨n,m,e,h,?_,g⟩
  rw [a.1];simp [akY,a.1]
  omega
theorem Fx:∀ l:List Nd,l.foldl ng none=none
 | []=>rfl
 | _ :: r=>Fx r
theorem Fw {ns:List Nd}:∀ (j l1:List Nd) (out c:List Int),ns=l1 ++ j→F3 ns out l1.length→j.foldl ng (some out)=some c→F3 ns c ns.length
 | [],l1,out,c,e,hs,h=>by
  have:out=c:=ak6 h
  subst this;rw [e,List.append_nil];rw [e,List.append_nil] at hs;exact hs
 | n :: r,l1,out,c,e,hs,h=>by
  have en:ns[l1.length]? = some n:=by rw [e];simp
  rw [List.foldl_cons] at h
  unfold ng at h
  rw [Option.bind_some,Bb] at h
  rcases i:yQ (fun _=>true) out n.kids ((out.length:Int) - 1) with _ | a
  ·rw [i] at h;rw [Option.map_none] at h
   have:=Fx r
   unfold ng at this
   rw [this] at h;cases h
  ·rw [i] at h
   have d:=i;rw [← List.reverse_reverse n.kids] at d
   obtain⟨o,q,f,_⟩:=EO hs n.kids.reverse _ a d (by rw [hs.1];omega) (by omega);rw [List.reverse_reverse,hs.1] at f
   have k:((l1.length:Int) - 1+1).toNat=l1.length:=by omega
   rw [k] at f
   have m:a=(((a+1).toNat:Nat):Int) - 1:=by omega
   have g:=f.le;have b:=Io hs en g f;rw [← m] at b
   exact Fw r (l1 ++ [n]) _ c (by rw [e];simp) (by rw [ak5];exact b) h
theorem Nz {ns:List Nd}(a:∀ i,i < ns.length→∃ n m,ns[i]? = some n∧Fo ns m i n.kids):∀ (f l1:List Nd) (out:List Int),ns=l1 ++ f→F3 ns out l1.length→∃ j,f.foldl ng (some out)=some j
 | [],l1,out,e,hs=>⟨out,rfl⟩
 | n :: r,l1,out,e,hs=>by
  have en:ns[l1.length]? = some n:=by rw [e];simp
  obtain⟨k,m,c,d⟩:=a l1.length (by rw [e];simp);rw [en] at c;injection c with c;subst c
  have h:=Mr (q:=fun _=>true) hs d (ak0 _) (fun _ _=>rfl);rw [List.foldl_cons]
  have g:ng (some out) n=some (out ++ [(out.length:Int) - ((m:Int) - 1)]):=by
   unfold ng;rw [Option.bind_some,Bb,hs.1,h,Option.map_some]
  rw [g];have b:=Io hs en d.le d;exact Nz a r (l1 ++ [n]) _ (by rw [e];simp) (by rw [ak5];exact b)
theorem FH (ns:List Nd):F3 ns [] 0:=⟨rfl,fun i hi=>by omega⟩
structure Ja (t:Tr):Prop where
 fo:Fo t.nodes 0 t.nodes.length t.items
 item:∀ c ∈ t.items,fM (nd t c.toNat).kind=true
theorem Ja.sizes {t:Tr}(h:Fo t.nodes 0 t.nodes.length t.items):∃ a,J6 t=some a∧F3 t.nodes a t.nodes.length:=by
 obtain⟨a,b⟩:=Nz (ns:=t.nodes) (fun i hi=>by obtain⟨n,m,e,_,f⟩:=h.each i (ak2 _) hi;exact⟨n,m,e,f⟩) t.nodes [] [] rfl (FH _);exact⟨a,b,Fw t.nodes [] [] a rfl (FH _) b⟩
theorem zX (t:Tr):Lg t=true↔Ja t∧∀ i,i < t.nodes.length→qH t i=true:=by
 constructor
 ·intro h;unfold Lg at h
  rcases a:J6 t with _ | e
  ·rw [a] at h
   have h0:t.nodes.length=0:=by simpa using h
   have h1:t.nodes=[]:=List.eq_nil_of_length_eq_zero h0;unfold J6 at a;rw [h1] at a;cases a
  ·rw [a] at h
   simp only [ak9,beq_iff_eq,ak8,List.mem_range] at h
   obtain⟨h1,h2⟩:=h;have d:F3 t.nodes e t.nodes.length:=Fw t.nodes [] [] e rfl (FH _) a;rw [yY,← List.reverse_reverse t.items] at h2
   obtain⟨_,_,b,j⟩:=EO d t.items.reverse _ _ h2 (by omega) (by omega);rw [List.reverse_reverse] at b
   have g:((t.nodes.length:Int) - 1+1).toNat=t.nodes.length:=by omega
   rw [g] at b
   exact⟨⟨b,fun c k=>j c (List.mem_reverse.2 k)⟩,h1⟩
 ·rintro⟨⟨f,hi⟩,m⟩
  obtain⟨e,a,d⟩:=Ja.sizes f;unfold Lg;rw [a];simp only [ak9,beq_iff_eq,ak8,List.mem_range]
  refine⟨m,?_⟩
  rw [yY,Mr d f (ak0 _) hi];rfl
end Mist
namespace Mist
theorem mE {t:Tr}{i:Nat}{n:Nd}(h:t.nodes[i]? = some n):nd t i=n:=by simp [nd,akY,h]
theorem yL {t:Tr}{i:Nat}(h:i < t.nodes.length):t.nodes[i]? = some (nd t i):=by
 rw [akU h];simp [nd,akY,akU h]
theorem Ld (ks:List Nat):fits [] ks=true↔ks.length=0:=by
 simp [fits]
theorem Lf (a b:Int)(p:Pd)(ks:List Nat):fits [⟨a,b,p⟩] ks=true↔(a≤(ks.length:Int)∧(ks.length:Int)≤b)∧∀ j,j < ks.length→p.is (ks.getD j 0)=true:=by
 have e:((ks.length:Int) - kL []).toNat=ks.length:=by simp [kL]
 have d:(ks.length:Int) - kL []=(ks.length:Int):=by simp [kL]
 unfold fits;simp only [e];rw [List.take_length,List.drop_length];simp only [ak9,within,decide_eq_true_eq,d,ak8,fits,List.isEmpty_nil,and_true];constructor
 ·rintro⟨h1,h2⟩
  exact⟨h1,fun j c=>by rw [akY,akU c];exact h2 _ (List.getElem_mem c)⟩
 ·rintro⟨h1,h2⟩
  refine⟨h1,fun x f=>?_⟩
  obtain⟨j,c,rfl⟩:=List.getElem_of_mem f
  have:=h2 j c
  rwa [akY,akU c] at this
theorem Lc (ks:List Nat):fits [⟨0,801,.param⟩,⟨1,1,.typ⟩,⟨1,1,.expr⟩] ks=true↔(2≤ks.length∧ks.length≤803)∧∀ j,j < ks.length→(if j+1=ks.length then ji (ks.getD j 0) else if j+2=ks.length then jf (ks.getD j 0) else decide (ks.getD j 0=34))=true:=by
 rcases Nat.lt_or_ge ks.length 2 with h2 | h2
 ·constructor
  ·intro h;unfold fits at h
   simp only [ak9,within,kL] at h
   simp at h
   omega
  ·rintro⟨⟨h,_⟩,_⟩;omega
 obtain⟨a,x,y,rfl⟩:∃ (a:List Nat) (x y:Nat),ks=a ++ [x,y]:=by
  refine⟨ks.take (ks.length - 2),ks[ks.length - 2],ks[ks.length - 1],?_⟩
  have g:=List.take_append_drop (ks.length - 2) ks
  have i:ks.drop (ks.length - 2)=[ks[ks.length - 2],ks[ks.length - 1]]:=by
   rw [alc (by omega),alc (by omega),List.drop_of_length_le (by omega)]
   have:ks.length - 2+1=ks.length - 1:=by omega
   simp only [this]
  rw [← i];exact g.symm
 have l1:(a ++ [x,y]).length=a.length+2:=by simp
 have e:(((a ++ [x,y]).length:Int) - kL [⟨1,1,.typ⟩,⟨1,1,.expr⟩]).toNat=a.length:=by rw [l1];simp [kL]
 have f:((a ++ [x,y]).length:Int) - kL [⟨1,1,.typ⟩,⟨1,1,.expr⟩]=(a.length:Int):=by rw [l1];simp [kL]
 have d:fits [⟨0,801,.param⟩,⟨1,1,.typ⟩,⟨1,1,.expr⟩] (a ++ [x,y])=(within (a.length:Int) 0 801 && (a.all Pd.param.is && (jf x && ji y))):=by
  rw [fits];simp only [e];rw [f,List.take_left,List.drop_left]
  congr 2
  simp [fits,kL,within,Pd.is]
 rw [d];simp only [ak9,within,decide_eq_true_eq,ak8,Pd.is];constructor
 ·rintro⟨⟨_,h3⟩,h4,h5,h6⟩
  refine⟨⟨by omega,by rw [l1];omega⟩,fun j c=>?_⟩
  rw [l1] at c ⊢
  by_cases c1:j=a.length+1
  ·subst c1;rw [if_pos rfl];simpa [akY] using h6
  ·by_cases c2:j=a.length
   ·subst c2;rw [if_neg (by omega),if_pos rfl];simpa [akY] using h5
   ·rw [if_neg (by omega),if_neg (by omega)];have b:j < a.length:=by omega
    have:=h4 a[j] (List.getElem_mem b)
    simpa [akY,List.getElem?_append_left b,akU b] using this
 ·rintro⟨⟨_,h3⟩,h4⟩
  rw [l1] at h3 h4
  refine⟨⟨by omega,by omega⟩,fun z k=>?_,?_,?_⟩
  ·obtain⟨j,c,rfl⟩:=List.getElem_of_mem k
   have:=h4 j (by omega)
   rw [if_neg (by omega),if_neg (by omega)] at this
   simpa [akY,List.getElem?_append_left c,akU c] using this
  ·have:=h4 a.length (by omega)
   rw [if_neg (by omega),if_pos rfl] at this
   simpa [akY] using this
  ·have:=h4 (a.length+1) (by omega)
   rw [if_pos rfl] at this
   simpa [akY] using this
def Bf (n:Nd)(ks:List Nat):Bool :=
 match shapeOf n.kind n.n with
 | none=>false
 | some s=>(s.named == !n.text.isEmpty) && (!s.named || isName n.text) && fits s.parts ks && (within n.n s.low s.high || (n.kind == 1 && within n.n (-9999) (-1)))
def wI (n:Nd)(ks:List Nat):Prop :=
 known n.kind=true∧(jB n.kind == isName n.text)=true∧(jB n.kind || n.text.isEmpty)=true∧jv n=true∧gU n=true∧∀ j,j < ks.length→jY n j (ks.getD j 0)=true
theorem dA {n:Nd}{ks:List Nat}{nm:Bool}{lo hi:Int}{ps:List Part}{M Nu:Bool}(o:shapeOf n.kind n.n=some ⟨nm,lo,hi,ps⟩)(k:known n.kind=true)(b:jB n.kind=nm)
  (g:jv n=M) (i:gU n=Nu)
  (c:fits ps ks=true→M=true∧∀ j,j < ks.length→jY n j (ks.getD j 0)=true)
  (d:ks.length≤801→M=true→(∀ j,j < ks.length→jY n j (ks.getD j 0)=true)→fits ps ks=true)
  (w:(within n.n lo hi || (n.kind == 1 && within n.n (-9999) (-1)))=Nu) :
  (Bf n ks=true→wI n ks)∧(ks.length≤801→wI n ks→Bf n ks=true):=by
 have a:n.text.isEmpty=true→isName n.text=false:=fun h=>by rw [List.isEmpty_iff.1 h];decide
 unfold Bf wI;simp only [o,k,b,g,i,w];constructor
 ·intro h;simp only [ak9] at h
  obtain⟨⟨⟨h1,h2⟩,h3⟩,h4⟩:=h;obtain⟨e,f⟩:=c h3
  refine⟨trivial,?_,?_,e,h4,f⟩
  ·cases nm
   ·have:n.text.isEmpty=true:=by simpa using h1
    rw [a this];rfl
   ·have:isName n.text=true:=by simpa using h2
    rw [this];rfl
  ·cases nm
   ·simpa using h1
   ·rfl
 ·rintro m⟨_,h1,h2,h3,h4,h5⟩;simp only [ak9]
  refine⟨⟨⟨?_,?_⟩,d m h3 h5⟩,h4⟩
  ·cases nm
   ·simpa using h2
   ·have:isName n.text=true:=by simpa using h1
    cases q:n.text.isEmpty
    ·rfl
    ·rw [a q] at this;cases this
  ·cases nm
   ·rfl
   ·simpa using h1
theorem jC {a b:Int}{p:Pd}{ks:List Nat}{n:Nd}{M:Bool}(d:∀ j k,jY n j k=p.is k)(h1:a≤(ks.length:Int)→(ks.length:Int)≤b→M=true)(h2:ks.length≤801→M=true→a≤(ks.length:Int)∧(ks.length:Int)≤b) :
  (fits [⟨a,b,p⟩] ks=true→M=true∧∀ j,j < ks.length→jY n j (ks.getD j 0)=true)∧(ks.length≤801→M=true→(∀ j,j < ks.length→jY n j (ks.getD j 0)=true)→fits [⟨a,b,p⟩] ks=true):=by
 constructor
 ·intro h;rw [Lf] at h
  exact⟨h1 h.1.1 h.1.2,fun j c=>by rw [d];exact h.2 j c⟩
 ·intro e f h;rw [Lf];exact⟨h2 e f,fun j c=>by rw [← d j];exact h j c⟩
theorem BA {ks:List Nat}{n:Nd}{M:Bool}(h1:ks.length=0↔M=true) :
  (fits [] ks=true→M=true∧∀ j,j < ks.length→jY n j (ks.getD j 0)=true)∧(ks.length≤801→M=true→(∀ j,j < ks.length→jY n j (ks.getD j 0)=true)→fits [] ks=true):=by
 constructor
 ·intro h;rw [Ld] at h
  exact⟨h1.1 h,fun j b=>by omega⟩
 ·intro _ a _;rw [Ld];exact h1.2 a
theorem dH (N:Int):(within N 0 0 || false)=(N == 0):=by
 rw [akZ];simp [within];omega
theorem y9 (n:Nd)(ks:List Nat)(f:n.kids.length=ks.length)(m:qE≤n.n∧n.n≤lD):(Bf n ks=true→wI n ks)∧(ks.length≤801→wI n ks→Bf n ks=true):=by
 obtain⟨k,x,N,kids,a⟩:=n;simp only at f m
 have g:(k=0∨(27≤k∧k≤29)∨(35≤k∧k≤39)∨47≤k)∨k=1∨k=2∨(k=3∨k=32∨k=45)∨(k=4∨k=5)∨(k=6∨k=7∨k=8∨k=9∨k=10∨k=11∨k=12∨k=13∨k=14∨k=15∨k=16∨k=17∨k=18∨k=23)∨k=19∨k=20∨k=21∨(k=22∨k=25∨k=43∨k=44)∨k=24∨k=26∨(k=30∨k=31)∨k=33∨k=34∨k=40∨k=41∨k=42∨k=46:=by omega
 rcases g with h | rfl | rfl | h | h | h | rfl | rfl | rfl | h | rfl | rfl | h | rfl | rfl | rfl | rfl | rfl | rfl
 ·
  have e:shapeOf k N=none:=by
   unfold shapeOf
   repeat (rw [if_neg (by omega)])
  have q:known k=false:=by
   simp [known,ji,jf,fM];omega
  constructor
  ·intro h;unfold Bf at h;simp only [e] at h;cases h
  ·rintro _⟨h1,_⟩;simp only [q] at h1;cases h1
 ·obtain⟨c,d⟩:=BA (ks:=ks) (n:=⟨1,x,N,kids,a⟩) (M:=kids.length == 0) (by rw [f];simp);exact dA (Nu:=within N (-9999) 9999) rfl rfl rfl rfl rfl c d (by rw [akZ];simp [within];omega)
 ·obtain⟨c,d⟩:=BA (ks:=ks) (n:=⟨2,x,N,kids,a⟩) (M:=kids.length == 0) (by rw [f];simp);exact dA (Nu:=within N 0 1) rfl rfl rfl rfl rfl c d (by rw [akZ];simp [within])
 ·rcases h with rfl | rfl | rfl
  ·obtain⟨c,d⟩:=BA (ks:=ks) (n:=⟨3,x,N,kids,a⟩) (M:=kids.length == 0) (by rw [f];simp);exact dA (Nu:=N == 0) rfl rfl rfl rfl rfl c d (dH N)
  ·obtain⟨c,d⟩:=BA (ks:=ks) (n:=⟨32,x,N,kids,a⟩) (M:=kids.length == 0) (by rw [f];simp);exact dA (Nu:=N == 0) rfl rfl rfl rfl rfl c d (dH N)
  ·obtain⟨c,d⟩:=BA (ks:=ks) (n:=⟨45,x,N,kids,a⟩) (M:=kids.length == 0) (by rw [f];simp);exact dA (Nu:=N == 0) rfl rfl rfl rfl rfl c d (dH N)
 ·rcases h with rfl | rfl
  ·obtain⟨c,d⟩:=jC (a:=1) (b:=1) (p:=.expr) (ks:=ks) (n:=⟨4,x,N,kids,a⟩) (M:=kids.length == 1) (fun _ _=>rfl) (by rw [f];simp;omega) (by rw [f];simp;omega);exact dA (Nu:=N == 0) rfl rfl rfl rfl rfl c d (dH N)
  ·obtain⟨c,d⟩:=jC (a:=1) (b:=1) (p:=.expr) (ks:=ks) (n:=⟨5,x,N,kids,a⟩) (M:=kids.length == 1) (fun _ _=>rfl) (by rw [f];simp;omega) (by rw [f];simp;omega);exact dA (Nu:=N == 0) rfl rfl rfl rfl rfl c d (dH N)
 ·rcases h with rfl | rfl | rfl | rfl | rfl | rfl | rfl | rfl | rfl | rfl | rfl | rfl | rfl | rfl
  ·obtain⟨c,d⟩:=jC (a:=2) (b:=2) (p:=.expr) (ks:=ks) (n:=⟨6,x,N,kids,a⟩) (M:=kids.length == 2) (fun _ _=>rfl) (by rw [f];simp;omega) (by rw [f];simp;omega);exact dA (Nu:=N == 0) rfl rfl rfl rfl rfl c d (dH N)
  ·obtain⟨c,d⟩:=jC (a:=2) (b:=2) (p:=.expr) (ks:=ks) (n:=⟨7,x,N,kids,a⟩) (M:=kids.length == 2) (fun _ _=>rfl) (by rw [f];simp;omega) (by rw [f];simp;omega);exact dA (Nu:=N == 0) rfl rfl rfl rfl rfl c d (dH N)
  ·obtain⟨c,d⟩:=jC (a:=2) (b:=2) (p:=.expr) (ks:=ks) (n:=⟨8,x,N,kids,a⟩) (M:=kids.length == 2) (fun _ _=>rfl) (by rw [f];simp;omega) (by rw [f];simp;omega);exact dA (Nu:=N == 0) rfl rfl rfl rfl rfl c d (dH N)
  ·obtain⟨c,d⟩:=jC (a:=2) (b:=2) (p:=.expr) (ks:=ks) (n:=⟨9,x,N,kids,a⟩) (M:=kids.length == 2) (fun _ _=>rfl) (by rw [f];simp;omega) (by rw [f];simp;omega);exact dA (Nu:=N == 0) rfl rfl rfl rfl rfl c d (dH N)
  ·obtain⟨c,d⟩:=jC (a:=2) (b:=2) (p:=.expr) (ks:=ks) (n:=⟨10,x,N,kids,a⟩) (M:=kids.length == 2) (fun _ _=>rfl) (by rw [f];simp;omega) (by rw [f];simp;omega);exact dA (Nu:=N == 0) rfl rfl rfl rfl rfl c d (dH N)
  ·obtain⟨c,d⟩:=jC (a:=2) (b:=2) (p:=.expr) (ks:=ks) (n:=⟨11,x,N,kids,a⟩) (M:=kids.length == 2) (fun _ _=>rfl) (by rw [f];simp;omega) (by rw [f];simp;omega);exact dA (Nu:=N == 0) rfl rfl rfl rfl rfl c d (dH N)
  ·obtain⟨c,d⟩:=jC (a:=2) (b:=2) (p:=.expr) (ks:=ks) (n:=⟨12,x,N,kids,a⟩) (M:=kids.length == 2) (fun _ _=>rfl) (by rw [f];simp;omega) (by rw [f];simp;omega);exact dA (Nu:=N == 0) rfl rfl rfl rfl rfl c d (dH N)
  ·obtain⟨c,d⟩:=jC (a:=2) (b:=2) (p:=.expr) (ks:=ks) (n:=⟨13,x,N,kids,a⟩) (M:=kids.length == 2) (fun _ _=>rfl) (by rw [f];simp;omega) (by rw [f];simp;omega);exact dA (Nu:=N == 0) rfl rfl rfl rfl rfl c d (dH N)
  ·obtain⟨c,d⟩:=jC (a:=2) (b:=2) (p:=.expr) (ks:=ks) (n:=⟨14,x,N,kids,a⟩) (M:=kids.length == 2) (fun _ _=>rfl) (by rw [f];simp;omega) (by rw [f];simp;omega);exact dA (Nu:=N == 0) rfl rfl rfl rfl rfl c d (dH N)
  ·obtain⟨c,d⟩:=jC (a:=2) (b:=2) (p:=.expr) (ks:=ks) (n:=⟨15,x,N,kids,a⟩) (M:=kids.length == 2) (fun _ _=>rfl) (by rw [f];simp;omega) (by rw [f];simp;omega);exact dA (Nu:=N == 0) rfl rfl rfl rfl rfl c d (dH N)
  ·obtain⟨c,d⟩:=jC (a:=2) (b:=2) (p:=.expr) (ks:=ks) (n:=⟨16,x,N,kids,a⟩) (M:=kids.length == 2) (fun _ _=>rfl) (by rw [f];simp;omega) (by rw [f];simp;omega);exact dA (Nu:=N == 0) rfl rfl rfl rfl rfl c d (dH N)
  ·obtain⟨c,d⟩:=jC (a:=2) (b:=2) (p:=.expr) (ks:=ks) (n:=⟨17,x,N,kids,a⟩) (M:=kids.length == 2) (fun _ _=>rfl) (by rw [f];simp;omega) (by rw [f];simp;omega);exact dA (Nu:=N == 0) rfl rfl rfl rfl rfl c d (dH N)
  ·obtain⟨c,d⟩:=jC (a:=2) (b:=2) (p:=.expr) (ks:=ks) (n:=⟨18,x,N,kids,a⟩) (M:=kids.length == 2) (fun _ _=>rfl) (by rw [f];simp;omega) (by rw [f];simp;omega);exact dA (Nu:=N == 0) rfl rfl rfl rfl rfl c d (dH N)
  ·obtain⟨c,d⟩:=jC (a:=2) (b:=2) (p:=.expr) (ks:=ks) (n:=⟨23,x,N,kids,a⟩) (M:=kids.length == 2) (fun _ _=>rfl) (by rw [f];simp;omega) (by rw [f];simp;omega);exact dA (Nu:=N == 0) rfl rfl rfl rfl rfl c d (dH N)
 ·obtain⟨c,d⟩:=jC (a:=3) (b:=3) (p:=.expr) (ks:=ks) (n:=⟨19,x,N,kids,a⟩) (M:=kids.length == 3) (fun _ _=>rfl) (by rw [f];simp;omega) (by rw [f];simp;omega);exact dA (Nu:=N == 0) rfl rfl rfl rfl rfl c d (dH N)
 ·obtain⟨c,d⟩:=jC (a:=2) (b:=2) (p:=.expr) (ks:=ks) (n:=⟨20,x,N,kids,a⟩) (M:=kids.length == 2) (fun _ _=>rfl) (by rw [f];simp;omega) (by rw [f];simp;omega);exact dA (Nu:=N == 0) rfl rfl rfl rfl rfl c d (dH N)
 ·obtain⟨c,d⟩:=jC (a:=0) (b:=801) (p:=.expr) (ks:=ks) (n:=⟨21,x,N,kids,a⟩) (M:=true) (fun _ _=>rfl) (fun _ _=>rfl) (fun _ _=>by omega);exact dA (Nu:=N == 0) rfl rfl rfl rfl rfl c d (dH N)
 ·rcases h with rfl | rfl | rfl | rfl
  ·obtain⟨c,d⟩:=jC (a:=1) (b:=1) (p:=.expr) (ks:=ks) (n:=⟨22,x,N,kids,a⟩) (M:=kids.length == 1) (fun _ _=>rfl) (by rw [f];simp;omega) (by rw [f];simp;omega);exact dA (Nu:=N == 0) rfl rfl rfl rfl rfl c d (dH N)
  ·obtain⟨c,d⟩:=jC (a:=1) (b:=1) (p:=.expr) (ks:=ks) (n:=⟨25,x,N,kids,a⟩) (M:=kids.length == 1) (fun _ _=>rfl) (by rw [f];simp;omega) (by rw [f];simp;omega);exact dA (Nu:=N == 0) rfl rfl rfl rfl rfl c d (dH N)
  ·obtain⟨c,d⟩:=jC (a:=1) (b:=1) (p:=.expr) (ks:=ks) (n:=⟨43,x,N,kids,a⟩) (M:=kids.length == 1) (fun _ _=>rfl) (by rw [f];simp;omega) (by rw [f];simp;omega);exact dA (Nu:=N == 0) rfl rfl rfl rfl rfl c d (dH N)
  ·obtain⟨c,d⟩:=jC (a:=1) (b:=1) (p:=.expr) (ks:=ks) (n:=⟨44,x,N,kids,a⟩) (M:=kids.length == 1) (fun _ _=>rfl) (by rw [f];simp;omega) (by rw [f];simp;omega);exact dA (Nu:=N == 0) rfl rfl rfl rfl rfl c d (dH N)
 ·obtain⟨c,d⟩:=jC (a:=1) (b:=801) (p:=.put) (ks:=ks) (n:=⟨24,x,N,kids,a⟩) (M:=decide (1≤kids.length)) (fun _ _=>rfl) (by rw [f];simp;omega) (by rw [f];simp;omega);exact dA (Nu:=N == 0) rfl rfl rfl rfl rfl c d (dH N)
 ·obtain⟨c,d⟩:=jC (a:=1) (b:=801) (p:=.expr) (ks:=ks) (n:=⟨26,x,N,kids,a⟩) (M:=decide (1≤kids.length)) (fun _ _=>rfl) (by rw [f];simp;omega) (by rw [f];simp;omega);exact dA (Nu:=N == 0) rfl rfl rfl rfl rfl c d (dH N)
 ·rcases h with rfl | rfl
  ·obtain⟨c,d⟩:=BA (ks:=ks) (n:=⟨30,x,N,kids,a⟩) (M:=kids.length == 0) (by rw [f];simp);exact dA (Nu:=N == 0) rfl rfl rfl rfl rfl c d (dH N)
  ·obtain⟨c,d⟩:=BA (ks:=ks) (n:=⟨31,x,N,kids,a⟩) (M:=kids.length == 0) (by rw [f];simp);exact dA (Nu:=N == 0) rfl rfl rfl rfl rfl c d (dH N)
 ·obtain⟨c,d⟩:=jC (a:=1) (b:=1) (p:=.typ) (ks:=ks) (n:=⟨33,x,N,kids,a⟩) (M:=kids.length == 1) (fun _ _=>rfl) (by rw [f];simp;omega) (by rw [f];simp;omega);exact dA (Nu:=true) rfl rfl rfl rfl rfl c d (by rw [akZ];simp [within];exact m)
 ·obtain⟨c,d⟩:=jC (a:=1) (b:=1) (p:=.typ) (ks:=ks) (n:=⟨34,x,N,kids,a⟩) (M:=kids.length == 1) (fun _ _=>rfl) (by rw [f];simp;omega) (by rw [f];simp;omega);exact dA (Nu:=N == 0) rfl rfl rfl rfl rfl c d (dH N)
 ·obtain⟨c,d⟩:=jC (a:=2) (b:=2) (p:=.num) (ks:=ks) (n:=⟨40,x,N,kids,a⟩) (M:=kids.length == 2) (fun _ _=>rfl) (by rw [f];simp;omega) (by rw [f];simp;omega);exact dA (Nu:=N == 0) rfl rfl rfl rfl rfl c d (dH N)
 ·obtain⟨c,d⟩:=jC (a:=1) (b:=801) (p:=.param) (ks:=ks) (n:=⟨41,x,N,kids,a⟩) (M:=decide (1≤kids.length)) (fun _ _=>rfl) (by rw [f];simp;omega) (by rw [f];simp;omega);exact dA (Nu:=N == 0) rfl rfl rfl rfl rfl c d (dH N)
 ·refine dA (M:=decide (2≤kids.length)) (Nu:=decide (0≤N)) (ps:=[⟨0,801,.param⟩,⟨1,1,.typ⟩,⟨1,1,.expr⟩]) rfl rfl rfl rfl rfl ?_ ?_ (by rw [akZ];simp [within];exact fun _=>m.2)
  ·intro h;rw [Lc] at h
   refine⟨by rw [f];exact ak' h.1.1,fun j i=>?_⟩
   have:=h.2 j i
   show (if (42:Nat)=24 then _ else _:Bool)=true
   simp only [jY];rw [f];simpa using this
  ·intro h8 o h;rw [Lc]
   refine⟨⟨by rw [f] at o;simpa using o,by omega⟩,fun j i=>?_⟩
   have:=h j i
   simp only [jY] at this
   rw [f] at this;simpa using this
 ·by_cases h7:N=7
  ·subst h7;obtain⟨c,d⟩:=BA (ks:=ks) (n:=⟨46,x,7,kids,a⟩) (M:=kids.length == 0) (by rw [f];simp);exact dA rfl rfl rfl rfl rfl c d rfl
  ·by_cases h8:N=8
   ·subst h8;obtain⟨c,d⟩:=jC (a:=1) (b:=801) (p:=.expr) (ks:=ks) (n:=⟨46,x,8,kids,a⟩) (M:=decide (1≤kids.length)) (fun _ _=>rfl) (by rw [f];simp;omega) (by rw [f];simp;omega);exact dA rfl rfl rfl rfl rfl c d rfl
   ·obtain⟨c,d⟩:=jC (a:=1) (b:=1) (p:=.expr) (ks:=ks) (n:=⟨46,x,N,kids,a⟩) (M:=kids.length == 1) (fun _ _=>rfl) (by rw [f];simp;omega) (by rw [f];simp;omega);refine dA (nm:=false) (lo:=1) (hi:=8) (Nu:=within N 1 8) (ps:=[⟨1,1,.expr⟩]) ?_ rfl rfl ?_ rfl c d ?_
    ·show some (asked N)=_
     unfold asked;rw [if_neg h7,if_neg h8]
    ·simp [jv,h7,h8]
    ·simp
theorem Ij (t:Tr)(i:Nat):qH t i=true↔wI (nd t i) (kinds t (nd t i).kids)∧within (nd t i).at_ 0 2000=true∧∀ c ∈ (nd t i).kids,(nd t c.toNat).kind=1→(nd t c.toNat).n < 0→(nd t i).kind=40:=by
 unfold qH wI known;simp only [ak9,ak8,List.mem_range];have d:(kinds t (nd t i).kids).length=(nd t i).kids.length:=by simp [kinds]
 have b:∀ j,j < (nd t i).kids.length→(kinds t (nd t i).kids).getD j 0=(nd t ((nd t i).kids.getD j 0).toNat).kind:=by
  intro j a;simp [kinds,akY,akU a]
 constructor
 ·rintro⟨⟨⟨⟨⟨⟨h1,h2⟩,h3⟩,h4⟩,h5⟩,h6⟩,h7⟩
  refine⟨⟨h1,h2,h3,h4,h5,fun j a=>?_⟩,h6,fun c g e f=>?_⟩
  ·rw [d] at a;rw [b j a];exact (h7 j a).1
  ·obtain⟨j,a,rfl⟩:=List.getElem_of_mem g
   have:=(h7 j a).2
   rw [akY,akU a,Option.getD_some] at this
   simp [e,f] at this
   exact this
 ·rintro⟨⟨h1,h2,h3,h4,h5,h8⟩,h6,h7⟩
  refine⟨⟨⟨⟨⟨⟨h1,h2⟩,h3⟩,h4⟩,h5⟩,h6⟩,fun j a=>⟨?_,?_⟩⟩
  ·rw [← b j a];exact h8 j (by rw [d];exact a)
  ·have k:(nd t i).kids.getD j 0 ∈ (nd t i).kids:=by
    rw [akY,akU a];exact List.getElem_mem a
   by_cases e:(nd t ((nd t i).kids.getD j 0).toNat).kind=1∧(nd t ((nd t i).kids.getD j 0).toNat).n < 0
   ·simp [h7 _ k e.1 e.2]
   ·cases m:((nd t ((nd t i).kids.getD j 0).toNat).kind == 1)
    ·rfl
    ·have:¬ (nd t ((nd t i).kids.getD j 0).toNat).n < 0:=fun h=>e ⟨by simpa using m,h⟩
     simp only [this,decide_false,Bool.and_false,Bool.false_and,Bool.not_false]
theorem om (t:Tr)(i:Nat):formed t i=true↔Bf (nd t i) (kinds t (nd t i).kids)=true∧within (nd t i).at_ 0 2000=true∧∀ c ∈ (nd t i).kids,0≤c∧c≤(i:Int) - 1:=by
 unfold formed Bf
 cases shapeOf (nd t i).kind (nd t i).n with
 | none=>simp
 | some s =>
  simp only [ak9,ak8];constructor
  ·rintro⟨⟨⟨⟨⟨h1,h2⟩,h3⟩,h4⟩,h5⟩,h6⟩
   exact⟨⟨⟨⟨h2,h3⟩,h5⟩,h6⟩,h1,fun c a=>by simpa [within] using h4 c a⟩
  ·rintro⟨⟨⟨⟨h2,h3⟩,h5⟩,h6⟩,h1,h4⟩
   exact⟨⟨⟨⟨⟨h1,h2⟩,h3⟩,fun c a=>by simpa [within] using h4 c a⟩,h5⟩,h6⟩
theorem tF (g:Nat→Int→Option Nat):∀ l:List Int,l.foldl (fun (o:Option Nat) c=>o.bind fun x=>g x c) none=none
 | []=>rfl
 | _ :: r=>tF g r
theorem FJ {t:Tr}{g:Nat→Int→Option Nat}:∀ (l:List Int) (a y:Nat),(∀ c ∈ l,∀ x z,g x c=some z→0≤c∧z=c.toNat+1∧∃ n,t.nodes[c.toNat]? = some n∧Fo t.nodes x c.toNat n.kids) →
  l.foldl (fun (o:Option Nat) c=>o.bind fun x=>g x c) (some a)=some y→Fo t.nodes a y l
 | [],a,y,_,h=>by
  have:a=y:=ak6 h
  subst this;exact .nil _
 | c :: r,a,y,hg,h=>by
  rw [List.foldl_cons,Option.bind_some] at h
  rcases b:g a c with _ | z
  ·rw [b,tF] at h;cases h
  ·rw [b] at h
   obtain⟨h0,rfl,n,e,i⟩:=hg c (List.mem_cons_self ..) a z b;have h1:=Fo.one i e;have f:((c.toNat:Nat):Int)=c:=by omega
   rw [f] at h1
   exact h1.append (FJ r _ y (fun d hd=>hg d (List.mem_cons_of_mem _ hd)) h)
theorem Tc {t:Tr}(j:∀ (i:Nat) n,t.nodes[i]? = some n→∀ c ∈ n.kids,0≤c∧c≤(i:Int) - 1):∀ (f i:Nat) (root:Bool) (next x:Nat) n,t.nodes[i]? = some n→walk t f i root next=some x→x=i+1∧Fo t.nodes next i n.kids∧fM n.kind=root
 | 0,_,_,_,_,_,_,h=>by cases h
 | f+1,i,root,next,x,n,e,h=>by
  unfold walk at h
  rw [mE e] at h
  have u:=(akV.1 e).1;rcases d:n.kids.foldl (fun (o:Option Nat) c=>o.bind fun x=>walk t f c.toNat false x) (some next) with _ | y
  ·rw [d] at h;cases h
  ·rw [d] at h
   have a:=FJ n.kids next y (fun c q x z r=>by
    have h1:=j i n e c q;have b:c.toNat < t.nodes.length:=by omega
    have g:=akU b;obtain⟨k,m,_⟩:=Tc j f c.toNat false x z _ g r;exact⟨h1.1,k,_,g,m⟩) d
   by_cases h1:i=y
   ·subst h1;by_cases h2:fM n.kind=root
    ·simp only [if_pos h2] at h
     exact⟨(ak6 h).symm,a,h2⟩
    ·simp [h2] at h
   ·simp only [if_neg h1] at h;cases h
theorem ab3 {t:Tr}(d:∀ (i:Nat) n,t.nodes[i]? = some n→∀ c ∈ n.kids,fM (nd t c.toNat).kind=false){a b:Nat}{as:List Int}(h:Fo t.nodes a b as):∀ f,b≤f→(∀ c ∈ as,fM (nd t c.toNat).kind=false)→as.foldl (fun (o:Option Nat) c=>o.bind fun x=>walk t f c.toNat false x) (some a)=some b:=by
 induction h with
 | nil=>intro f _ _;rfl
 | @snoc a m b as n h k e ih jh =>
  intro f q hi;have h8:=k.le;obtain⟨f,rfl⟩:∃ g,f=g+1:=⟨f - 1,by omega⟩;rw [List.foldl_append,ih _ (by omega) (fun c j=>hi c (List.mem_append_left _ j))];simp only [List.foldl_cons,List.foldl_nil,Option.bind_some,ak7];unfold walk;rw [mE e,jh f (by omega) (d b n e)]
  have:=hi (b:Int) (List.mem_append_right _ (List.mem_singleton.2 rfl))
  rw [ak7,mE e] at this
  simp [this]
theorem Pw {t:Tr}(d:∀ (i:Nat) n,t.nodes[i]? = some n→∀ c ∈ n.kids,fM (nd t c.toNat).kind=false){a b:Nat}{as:List Int}(h:Fo t.nodes a b as):(∀ c ∈ as,fM (nd t c.toNat).kind=true) →
  as.foldl (fun (o:Option Nat) (i:Int)=>o.bind fun x=>if within i x ((t.nodes.length:Int) - 1)=true then walk t (i.toNat+1) i.toNat true x else none) (some a)=some b:=by
 induction h with
 | nil=>intro _;rfl
 | @snoc a m b as n h k e ih jh =>
  intro hi;have h8:=k.le;have g:=(akV.1 e).1;rw [List.foldl_append,ih (fun c f=>hi c (List.mem_append_left _ f))];simp only [List.foldl_cons,List.foldl_nil,Option.bind_some,ak7];rw [if_pos (by simp [within];omega)];unfold walk;rw [mE e,ab3 d k b (ak0 _) (d b n e)]
  have:=hi (b:Int) (List.mem_append_right _ (List.mem_singleton.2 rfl))
  rw [ak7,mE e] at this
  simp [this]
theorem EN {t:Tr}(A:∀ (i:Nat) n,t.nodes[i]? = some n→∀ c ∈ n.kids,0≤c∧c≤(i:Int) - 1)(h:ordered t=true):Ja t:=by
 unfold ordered at h
 rcases f:t.items.foldl (fun (o:Option Nat) (i:Int)=>o.bind fun x=>if within i x ((t.nodes.length:Int) - 1)=true then walk t (i.toNat+1) i.toNat true x else none) (some 0) with _ | y
 ·rw [f] at h;cases h
 ·rw [f] at h
  have:y=t.nodes.length:=by simpa using h
  subst this
  have u:∀ (c:Int) (x z:Nat),(if within c x ((t.nodes.length:Int) - 1)=true then walk t (c.toNat+1) c.toNat true x else none)=some z→0≤c∧z=c.toNat+1∧fM (nd t c.toNat).kind=true∧∃ n,t.nodes[c.toNat]? = some n∧Fo t.nodes x c.toNat n.kids:=by
   intro c x z b;split at b
   ·rename_i B
    simp only [within,ak9,decide_eq_true_eq] at B
    have q:c.toNat < t.nodes.length:=by omega
    have j:=akU q;obtain⟨k,m,w⟩:=Tc A _ c.toNat true x z _ j b
    refine⟨by omega,k,?_,_,j,m⟩
    rw [mE j];exact w
   ·cases b
  refine⟨FJ (g:=fun x c=>if within c x ((t.nodes.length:Int) - 1)=true then walk t (c.toNat+1) c.toNat true x else none) t.items 0 _ (fun c _ x z b=>?_) f,?_⟩
  ·obtain⟨v,k,_,m⟩:=u c x z b;exact⟨v,k,m⟩
  ·
   have:∀ (l:List Int) (a y:Nat),l.foldl (fun (o:Option Nat) (i:Int)=>o.bind fun x=>if within i x ((t.nodes.length:Int) - 1)=true then walk t (i.toNat+1) i.toNat true x else none) (some a)=some y→∀ c ∈ l,fM (nd t c.toNat).kind=true:=by
    intro l
    induction l with
    | nil=>intro a y _ c e;cases e
    | cons d r C =>
     intro a y h c e;rw [List.foldl_cons,Option.bind_some] at h
     rcases b:(if within d a ((t.nodes.length:Int) - 1)=true then walk t (d.toNat+1) d.toNat true a else none) with _ | z
     ·rw [b,tF (fun x c=>if within c x ((t.nodes.length:Int) - 1)=true then walk t (c.toNat+1) c.toNat true x else none)] at h;cases h
     ·rw [b] at h
      rcases List.mem_cons.1 e with rfl | e
      ·exact (u _ _ _ b).2.2.1
      ·exact C _ _ h c e
   exact this _ _ _ f
theorem ZJ {n:Nd}{j k:Nat}(h:jY n j k=true):fM k=false:=by
 have:ji k=true∨jf k=true∨k=25∨k=34∨k=1:=by
  unfold jY at h
  split at h
  ·exact .inr (.inr (.inl (by simpa using h)))
  ·split at h
   ·exact .inr (.inr (.inr (.inl (by simpa using h))))
   ·split at h
    ·exact .inr (.inl h)
    ·split at h
     ·exact .inr (.inr (.inr (.inr (by simpa using h))))
     ·split at h
      ·split at h
       ·exact .inl h
       ·split at h
        ·exact .inr (.inl h)
        ·exact .inr (.inr (.inr (.inl (by simpa using h))))
      ·exact .inl h
 simp only [ji,jf,ak9,decide_eq_true_eq] at this
 simp [fM];omega
theorem Lh (t:Tr)(S:∀ n ∈ t.nodes,qE≤n.n∧n.n≤lD)(V:t.nodes.length≤801):((List.range t.nodes.length).all (formed t)=true∧ordered t=true∧signed t=true)↔Lg t=true:=by
 have v:∀ i,i < t.nodes.length→qE≤(nd t i).n∧(nd t i).n≤lD:=fun i hi=>S _ (ak3 (yL hi))
 have b:∀ i,(nd t i).kids.length=(kinds t (nd t i).kids).length:=fun i=>by simp [kinds]
 rw [zX];constructor
 ·rintro⟨h1,h2,h3⟩
  have F:∀ i,i < t.nodes.length→formed t i=true:=fun i hi=>ak8.1 h1 i (List.mem_range.2 hi)
  have x:∀ (i:Nat) n,t.nodes[i]? = some n→∀ c ∈ n.kids,0≤c∧c≤(i:Int) - 1:=fun i n e=>by
   have:=((om t i).1 (F i (akV.1 e).1)).2.2
   rwa [mE e] at this
  have a:=EN x h2
  refine⟨a,fun i hi=>?_⟩
  obtain⟨K,L,_⟩:=(om t i).1 (F i hi);refine (Ij t i).2 ⟨(y9 _ _ (b i) (v i hi)).1 K,L,fun c g I B=>?_⟩;have P:=x i _ (yL hi) c g;have G:=ak8.1 h3 c.toNat (List.mem_range.2 (by omega));simp [I,B] at G
  obtain⟨d,hd,C,M⟩:=G;have Q:=a.fo.ids d hd;have N:((c.toNat:Nat):Int)=c:=by omega
  have D:c ∈ (nd t d.toNat).kids:=(show max c 0=c by omega) ▸ M
  have:=a.fo.Qp (i:=i) (j:=d.toNat) hi (by omega) (yL hi) (yL (by omega)) g D
  rw [this];exact C
 ·rintro⟨a,h1⟩
  have w:∀ i,i < t.nodes.length→_:=fun i hi=>(Ij t i).1 (h1 i hi)
  have x:∀ (i:Nat),i < t.nodes.length→∀ c ∈ (nd t i).kids,0≤c∧c≤(i:Int) - 1:=fun i hi c g=>by
   obtain⟨n,m,e,_,f⟩:=a.fo.each i (ak2 _) hi;rw [mE e] at g
   have:=f.ids c g
   omega
  have u:∀ (i:Nat) n,t.nodes[i]? = some n→∀ c ∈ n.kids,fM (nd t c.toNat).kind=false:=fun i n e c g=>by
   have hi:=(akV.1 e).1;obtain⟨j,r,rfl⟩:=List.getElem_of_mem g;have E:=(w i hi).1.2.2.2.2.2 j (by rw [← b i,mE e];exact r);rw [mE e] at E
   have J:(kinds t n.kids).getD j 0=(nd t (n.kids[j]).toNat).kind:=by simp [kinds,akY,akU r]
   rw [J] at E
   exact ZJ E
  refine⟨?_,?_,?_⟩
  ·rw [ak8];intro i hi;have hi:=List.mem_range.1 hi;refine (om t i).2 ⟨(y9 _ _ (b i) (v i hi)).2 ?_ (w i hi).1,(w i hi).2.1,x i hi⟩;rw [← b i];obtain⟨n,m,e,_,f⟩:=a.fo.each i (ak2 _) hi;rw [mE e]
   have:=f.len
   omega
  ·unfold ordered;rw [Pw u a.fo a.item];simp
  ·unfold signed;rw [ak8];intro i hi;have hi:=List.mem_range.1 hi;by_cases y:(nd t i).kind=1∧(nd t i).n < 0
   ·have k:(i:Int) ∉ t.items:=fun h=>by
     have:=a.item _ h
     rw [ak7] at this
     simp [fM,y.1] at this
    rcases a.fo.parent i (ak2 _) hi with h | ⟨j,n,_,r,e,o⟩
    ·exact absurd h k
    ·have H:=(w j r).2.2 (i:Int) (by rw [mE e];exact o) (by rw [ak7];exact y.1) (by rw [ak7];exact y.2)
     have A:(j:Int) ∈ t.items:=by
      rcases a.fo.parent j (ak2 _) r with h | ⟨T,U,_,R,B,q⟩
      ·exact h
      ·exfalso
       have:=u T U B _ q
       rw [ak7] at this
       simp [fM,H] at this
     simp only [Bool.or_eq_true,List.any_eq_true,ak9];refine .inr ⟨(j:Int),A,?_,?_⟩
     ·rw [ak7,H];rfl
     ·rw [ak7,mE e];simpa using o
   ·simp only [Bool.or_eq_true];left
    cases hy:((nd t i).kind == 1 && decide ((nd t i).n < 0))
    ·rfl
    ·exfalso;apply y;simpa using hy
end Mist
namespace Mist
def pI (q:Nat × Bool):Bool:=fM q.1
theorem abp {q:Nat × Bool}(h:jf q.1=true):(q.1 == 1)=false:=by
 unfold jf at h;simp at h ⊢;omega
theorem G_ {n:Nd}(e:n.kind=42):∀ (f:List (Nat × Bool)) (i:Nat) (b a:Nat × Bool),i+f.length+2=n.kids.length→(∀ q ∈ f,(q.1 == 34)=true)→jf b.1=true→pE a=true→tJ n i (f ++ [b] ++ [a])=true
 | [],i,b,a,hl,_,h1,h2=>by
  have c:¬ i+1=n.kids.length:=by simp at hl;omega
  have d:i+2=n.kids.length:=by simpa using hl
  have b1:i+1+1=n.kids.length:=by omega
  unfold pE at h2
  simp only [ak9] at h2
  have h3:=h2.2;simp only [List.nil_append,List.cons_append,tJ,yH,jY,e,abp h1,if_neg c,if_pos d,if_pos b1,h1,h2.1]
  revert h3
  cases (a.1 == 1) <;> cases a.2 <;> simp
 | q :: r,i,b,a,hl,hq,h1,h2=>by
  have c:¬ i+1=n.kids.length:=by simp at hl;omega
  have d:¬ i+2=n.kids.length:=by simp at hl;omega
  have h0:=hq q (List.mem_cons_self ..);have h9:q.1=34:=by simpa using h0
  have h:=G_ e r (i+1) b a (by simp at hl;omega) (fun x g=>hq x (List.mem_cons_of_mem _ g)) h1 h2
  show (yH n i q && tJ n (i+1) (r ++ [b] ++ [a]))=true
  rw [h];simp [yH,jY,e,if_neg c,if_neg d,h9]
section
variable {l:List Tok} {en:Int} (hT:Cn l)
include hT
theorem rz (n:Nat)(j:Job)(k:Nat)(ns:List Nd)(f:mX ns)(g:Wf ns)(d:j.args=[])(c:∀ e b,j=.gQ e b→b ≠ []):Seg ns.length ns j.p j.many (run l en n j k ns) :=
 SF hT n j k ns ns.length f g (by rw [d];exact .nil _) (by rw [d];intro a h;cases h) c
theorem R7 (k:Nat)(ns:List Nd)(b:mX ns)(c:Wf ns):Seg ns.length ns (fun q=>q.1 == 1) false (uR l en k ns):=by
 unfold uR;split
 ·rename_i e
  have h1:=cB e (by simp);refine Seg.dQ fun a=>?_
  have h2:=Ql hT a;exact Seg.add _ b c (dS _) (.nil _) (oZ hT 1 [] _ [] k rfl (eB rfl).1 (eB rfl).2 rfl (by simp [gU,within];omega) h1 rfl) rfl
 ·refine Seg.dQ fun a=>?_
  have h1:=h_ a (by simp);have h2:=Ql hT a;exact Seg.add _ b c (dS _) (.nil _) (oZ hT 1 [] _ [] k rfl (eB rfl).1 (eB rfl).2 rfl (by simp [gU,within];omega) h1 rfl) rfl
theorem Bg {n k A lo:Nat}{ns0 c:List Nd}{ps:List Int}(j:mX c)(w:Wf c)(o:∃ t,c=ns0 ++ t)(f:Fo c lo c.length ps)(r:∀ a ∈ ps,((fV c a).1 == 34)=true)(e:(tg l (k+1)).kind=1)(m:k < l.length):Seg lo ns0 pI false (oJ l en n k ps A c):=by
 unfold oJ;refine Seg.need fun _=>Seg.need fun _=>?_
 refine Seg.thn (rz hT n .typ _ c j w rfl (by simp)) fun t C h _ g=>?_
 have rest:∀ (u:Int) (i:Nat),0≤u→Seg lo ns0 pI false (mQ l en n k ps (hd t) u i h):=by
  intro u i v;unfold mQ;refine Seg.need fun _=>?_
  refine Seg.thn (rz hT n .expr _ h g.ok g.wf rfl (by simp)) fun b D B _ q=>?_
  refine Seg.add _ q.ok q.wf (fD o (fD g.more q.more)) (((f.more (fD g.more q.more)).append (g.xg.more q.more)).append q.xg) ?_ rfl;refine oZ hT 42 _ u _ k rfl (d9 hT rfl e).1 (d9 hT rfl e).2 (by simp [jv]) (by simp [gU,v]) m ?_;rw [List.map_append,List.map_append];refine G_ rfl _ 0 _ _ (by simp) (fun x y=>?_) (g.Mj q.more) q.all1;obtain⟨a,d,rfl⟩:=List.mem_map.1 y;exact oq (p:=fun q=>q.1 == 34) f (ak0 _) r (fD g.more q.more) a d
 split
 ·split
  ·exact Seg.bad
  ·exact Seg.dQ fun _=>rest _ _ (Int.natCast_nonneg _)
 ·exact rest 0 _ (Int.le_refl _)
theorem abM (n k:Nat)(ns:List Nd)(b:mX ns)(d:Wf ns)(c:k < l.length):Seg ns.length ns pI false (A_ l en n k ns):=by
 unfold A_;split
 ·exact Seg.bad
 ·rename_i h0
  have h8:gZ (tx l (k+1))≤8:=by unfold gZ;(repeat' split) <;> omega
  split
  ·exact Seg.add _ b d (dS _) (.nil _) (oZ hT 46 [] 7 [] k rfl (eB rfl).1 (eB rfl).2 rfl rfl c rfl) rfl
  ·rename_i h7
   split
   ·refine Seg.thn (rz hT n (.list .expr) _ ns b d rfl (by simp)) fun a j e _ g=>?_
    have f:1≤a.length:=by
     cases a with
     | nil=>exact absurd rfl g.ne
     | cons x r=>simp
    exact Seg.add _ g.ok g.wf g.more g.fo (j5 hT 46 [] 8 _ k (by decide) rfl (eB rfl).1 (eB rfl).2 (by simp [jv,f]) rfl c g.all) rfl
   ·rename_i h9
    obtain⟨Q,hQ⟩:∃ Q,Q=gZ (tx l (k+1)):=⟨_,rfl⟩;rw [← hQ] at h0 h7 h8 h9 ⊢
    refine Seg.thn (rz hT n .expr _ ns b d rfl (by simp)) fun a j e _ g=>?_
    refine Seg.add _ g.ok g.wf g.more g.xg (j5 hT 46 [] _ _ k (by decide) rfl (eB rfl).1 (eB rfl).2 ?_ ?_ c (jZ (p:=fun x=>pE (fV e x)=true) g.all1)) rfl
    ·have h:¬ (Q:Int)=7:=by omega
     have i:¬ (Q:Int)=8:=by omega
     simp [jv,h,i]
    ·simp [gU,within];omega
theorem ZB (n k:Nat)(ns:List Nd)(d:mX ns)(f:Wf ns):Seg ns.length ns pI false (item l en n k ns):=by
 unfold item;split
 case isFalse=>exact Seg.bad
 rename_i t
 have e:=h_ t (by simp);split
 case h_2=>exact Seg.bad
 rename_i i _
 cases i
 ·
  show Seg ns.length ns pI false (dQ l 1 (k+1) _)
  refine Seg.dQ fun c=>Seg.need fun _=>?_
  refine Seg.thn (R7 hT _ ns d f) fun a m j _ g=>Seg.need fun _=>?_
  refine Seg.thn (R7 hT _ j g.ok g.wf) fun b w v _ q=>?_
  refine Seg.add _ q.ok q.wf (fD g.more q.more) ((g.xg.more q.more).append q.xg) (oZ hT 40 _ 0 _ k rfl (d9 hT rfl c).1 (d9 hT rfl c).2 rfl rfl e ?_) rfl;refine qC (p:=fun q=>q.1 == 1) (fun i q o=>?_) _ 0 (xU (p:=fun x=>((fV v x).1 == 1)=true) (g.Mj (p:=fun q=>q.1 == 1) q.more) q.all1);have h9:q.1=1:=by simpa using o
  simp [yH,jY,h9]
 ·
  show Seg ns.length ns pI false (dQ l 1 (k+1) _)
  refine Seg.dQ fun c=>Seg.need fun _=>Seg.need fun _=>?_
  refine Seg.thn (rz hT n (.list .param) _ ns d f rfl (by simp)) fun a m j _ g=>Seg.need fun _=>?_
  have u:1≤a.length:=by
   cases a with
   | nil=>exact absurd rfl g.ne
   | cons x r=>simp
  refine Seg.add _ g.ok g.wf g.more g.fo (oZ hT 41 _ 0 _ k rfl (d9 hT rfl c).1 (d9 hT rfl c).2 (by simp [jv,u]) rfl e ?_) rfl;refine qC (p:=fun q=>q.1 == 34) (fun i q o=>?_) _ 0 g.all;have h9:q.1=34:=by simpa using o
  simp [yH,jY,h9]
 ·
  show Seg ns.length ns pI false (dQ l 1 (k+1) _)
  refine Seg.dQ fun c=>Seg.need fun _=>?_
  split
  ·exact Bg hT d f (dS _) (.nil _) (fun a h=>by cases h) c e
  ·refine Seg.thn (rz hT n (.list .param) _ ns d f rfl (by simp)) fun a m j _ g=>?_
   exact Bg hT g.ok g.wf g.more g.fo g.all c e
 ·
  show Seg ns.length ns pI false (dQ l 1 (k+1) _)
  refine Seg.dQ fun c=>Seg.need fun _=>?_
  refine Seg.thn (rz hT n .expr _ ns d f rfl (by simp)) fun a m j _ g=>?_
  exact Seg.add _ g.ok g.wf g.more g.xg (j5 hT 43 _ 0 _ k (by decide) rfl (d9 hT rfl c).1 (d9 hT rfl c).2 rfl rfl e (jZ (p:=fun x=>pE (fV j x)=true) g.all1)) rfl
 ·
  show Seg ns.length ns pI false (dQ l 1 (k+1) _)
  refine Seg.dQ fun c=>Seg.need fun _=>?_
  refine Seg.thn (rz hT n .expr _ ns d f rfl (by simp)) fun a m j _ g=>?_
  exact Seg.add _ g.ok g.wf g.more g.xg (j5 hT 44 _ 0 _ k (by decide) rfl (d9 hT rfl c).1 (d9 hT rfl c).2 rfl rfl e (jZ (p:=fun x=>pE (fV j x)=true) g.all1)) rfl
 ·
  show Seg ns.length ns pI false (dQ l 1 (k+1) _)
  refine Seg.dQ fun c=>?_
  exact Seg.add _ d f (dS _) (.nil _) (oZ hT 45 _ 0 [] k rfl (d9 hT rfl c).1 (d9 hT rfl c).2 rfl rfl e rfl) rfl
 ·exact abM hT n k ns d f e
theorem EW (n:Nat):∀ (m k:Nat) (ns:List Nd) (c d:List Int) (i:Nat) (b:List Nd),mX ns→Wf ns→Fo ns 0 ns.length c→(∀ a ∈ c,pI (fV ns a)=true)→prog l en n m k ns c=some (.ok d i b) →
  mX b∧Wf b∧Fo b 0 b.length d∧∀ a ∈ d,pI (fV b a)=true
 | 0,_,_,_,_,_,_,_,_,_,_,h=>by cases h
 | m+1,k,ns,c,d,i,b,ha,hw,hf,hp,h=>by
  rw [prog] at h
  split at h
  ·have o:=ZB (en:=en) hT n k ns ha hw
   cases hi:item l en n k ns with
   | none=>rw [hi] at h;cases h
   | some r =>
    rw [hi] at h
    cases r with
    | bad f=>injection h with h;cases h
    | ok a f j =>
     have g:=o a f j hi;have h:need l [59] f (prog l en n m (f+1) j (c ++ [hd a]))=some (.ok d i b):=h;unfold need at h
     split at h
     ·refine EW n m (f+1) j (c ++ [hd a]) d i b g.ok g.wf ((hf.more g.more).append g.xg) (fun x e=>?_) h;rcases List.mem_append.1 e with e | e
      ·exact oq hf (ak0 _) hp g.more x e
      ·rw [List.mem_singleton.1 e];exact g.all1
     ·injection h with h;cases h
  ·injection h with h
   injection h with h1 h2 h3
   subst h1;subst h2;subst h3;exact⟨ha,hw,hf,hp⟩
end
end Mist
