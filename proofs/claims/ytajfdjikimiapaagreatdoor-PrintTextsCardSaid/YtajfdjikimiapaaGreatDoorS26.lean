/-
  A part of the proof.
-/
import Derived.Test.YtajfdjikimiapaaGreatDoorS05
set_option linter.all false
set_option maxRecDepth 100000
set_option maxHeartbeats 2000000
set_option linter.all false
namespace Go.Proofs.YtajfdjikimiapaaGreatDoor
section
open Go Go.RowKit
def puts:List (Option Tmp)→List (Option Value)→Act→Act
 | d :: ds,some v :: vs,a=>puts ds vs (a.put d v)
 | _ :: ds,none :: vs,a=>puts ds vs a
 | _,_,a=>a
def once:List (Option Tmp)→Bool
 | []=>true
 | none :: r=>once r
 | some k :: r=>!r.contains (some k) && once r
theorem DZ:∀ (ds:List (Option Tmp)) (vs:List (Option Value)) (a:Act) (d:Option Tmp) (v:Value),(∀ k,d=some k→ds.contains (some k)=false)→puts ds vs (a.put d v)=(puts ds vs a).put d v
 | [],_,_,_,_,_=>by simp [puts]
 | _ :: _,[],_,_,_,_=>by simp [puts]
 | x :: ds,none :: vs,a,d,v,h=>by
  rw [puts,puts];exact DZ ds vs a d v fun k b=>by have:=h k b;simp at this ⊢;exact this.2
 | x :: ds,some u :: vs,a,d,v,h=>by
  rw [puts,puts,Act.put_comm a v u (fun k b e=>by have:=h k b;rw [e] at this;simp at this)];exact DZ ds vs _ d v fun k b=>by have:=h k b;simp at this ⊢;exact this.2
theorem yx:∀ (ds:List (Option Tmp)) (vs:List (Option Value)) (a:Act) (i:Nat) (v:Value),once ds=true→vs.length=ds.length→vs[i]? = some none→puts ds (vs.set i (some v)) a=(puts ds vs a).put (ds.getD i none) v
 | [],vs,_,i,_,_,hl,h=>by
  have:=(aiq.1 h).1
  simp at hl;subst hl;simp at this
 | _ :: _,[],_,i,_,_,_,h=>by simp at h
 | x :: ds,y :: vs,a,0,v,hn,hl,h=>by
  have hy:y=none:=by simpa using h
  subst hy
  show puts ds vs (a.put x v)=(puts ds vs a).put x v
  refine DZ ds vs a x v fun k c=>?_
  subst c;simp [once] at hn
  simpa using hn.1
 | x :: ds,y :: vs,a,i+1,v,hn,hl,h=>by
  have b:once ds=true:=by
   cases x with
   | none=>exact hn
   | some k=>simp only [once,aiE] at hn;exact hn.2
  cases y with
  | none =>
   show puts ds (vs.set i (some v)) a=(puts ds vs a).put (ds.getD i none) v
   exact yx ds vs a i v b (by simpa using hl) (by simpa using h)
  | some u =>
   show puts ds (vs.set i (some v)) (a.put x u)=(puts ds vs (a.put x u)).put (ds.getD i none) v
   exact yx ds vs _ i v b (by simpa using hl) (by simpa using h)
theorem Yu (a:Act)(d:Option Tmp)(v:Value):(a.put d v).tmps.size=a.tmps.size:=by cases d <;> simp [Act.put]
theorem DY (a:Act){d:Option Tmp}{k:Nat}(v:Value)(h:d ≠ some k):(a.put d v).tmps.getD k undef=a.tmps.getD k undef:=by
 cases d with
 | none=>rfl
 | some j =>
  have b:j ≠ k:=fun e=>h (by rw [e])
  simp [Act.put,Array.getElem?_setIfInBounds_ne b]
theorem abd (a:Act){k:Nat}(v:Value)(h:k < a.tmps.size):(a.put (some k) v).tmps.getD k undef=v:=by
 simp [Act.put,h]
theorem tQ:∀ (ds:List (Option Tmp)) (vs:List (Option Value)) (a:Act) (k:Nat),ds.contains (some k)=false→(puts ds vs a).tmps.getD k undef=a.tmps.getD k undef
 | [],_,_,_,_=>by simp [puts]
 | _ :: _,[],_,_,_=>by simp [puts]
 | x :: ds,none :: vs,a,k,h=>by
  rw [puts];exact tQ ds vs a k (by simp at h ⊢;exact h.2)
 | x :: ds,some u :: vs,a,k,h=>by
  rw [puts,tQ ds vs _ k (by simp at h ⊢;exact h.2)];exact DY a u (fun e=>by rw [e] at h;simp at h)
theorem Ih:∀ (ds:List (Option Tmp)) (vs:List (Option Value)) (a:Act) (j k:Nat) (v:Value),once ds=true→ds[j]? = some (some k)→vs[j]? = some (some v)→k < a.tmps.size→(puts ds vs a).tmps.getD k undef=v
 | [],_,_,j,_,_,_,h,_,_=>by simp at h
 | _ :: _,[],_,j,_,_,_,_,h,_=>by simp at h
 | x :: ds,y :: vs,a,0,k,v,hn,hd,hv,hk=>by
  have h1:x=some k:=by simpa using hd
  have h2:y=some v:=by simpa using hv
  subst h1 h2;simp [once] at hn
  rw [puts,tQ ds vs _ k (by simpa using hn.1)];exact abd a v hk
 | x :: ds,y :: vs,a,j+1,k,v,hn,hd,hv,hk=>by
  have b:once ds=true:=by
   cases x with
   | none=>exact hn
   | some q=>simp only [once,aiE] at hn;exact hn.2
  cases y with
  | none=>exact Ih ds vs a j k v b (by simpa using hd) (by simpa using hv) hk
  | some u=>exact Ih ds vs (a.put x u) j k v b (by simpa using hd) (by simpa using hv) (by rw [Yu];exact hk)
theorem zN:∀ (ds:List (Option Tmp)) (vs:List (Option Value)) (a:Act) (j k:Nat),once ds=true→ds[j]? = some (some k)→vs[j]? = some none→(puts ds vs a).tmps.getD k undef=a.tmps.getD k undef
 | [],_,_,j,_,_,h,_=>by simp at h
 | _ :: _,[],_,j,_,_,_,h=>by simp at h
 | x :: ds,y :: vs,a,0,k,hn,hd,hv=>by
  have h1:x=some k:=by simpa using hd
  have h2:y=none:=by simpa using hv
  subst h1 h2;simp [once] at hn
  rw [puts];exact tQ ds vs a k (by simpa using hn.1)
 | x :: ds,y :: vs,a,j+1,k,hn,hd,hv=>by
  have b:once ds=true∧x ≠ some k:=by
   cases x with
   | none=>exact⟨hn,fun e=>by cases e⟩
   | some q =>
    simp only [once,aiE] at hn
    refine⟨hn.2,fun e=>?_⟩
    injection e with e
    subst e;have h9:some q ∈ ds:=aiy (by simpa using hd);simp at hn
    exact hn.1 h9
  cases y with
  | none=>exact zN ds vs a j k b.1 (by simpa using hd) (by simpa using hv)
  | some u =>
   rw [puts,zN ds vs (a.put x u) j k b.1 (by simpa using hd) (by simpa using hv)];exact DY a u b.2
def waitsFor (o:Oper)(j:Nat):Prop:=∃ e ∈ o.after,Region.binds .any e=true∧e.on=j
def Later (ops:Array Oper)(vs:List (Option Value)):Prop:=∀ (j:Nat) oj,ops[j]? = some oj→(∃ v,vs[j]? = some (some v))→∀ q,waitsFor oj q→∃ v,vs[q]? = some (some v)
theorem Later.none {ops:Array Oper}{vs:List (Option Value)}(h:Later ops vs)(f:vs.length=ops.size){i:Nat}(hi:vs[i]? = some Option.none)(j:Nat)(a:Oper)(b:ops[j]? = some a)(e:waitsFor a i):vs[j]? = some Option.none:=by
 have d:j < ops.size:=(ais.1 b).1;rcases h9:vs[j]? with _ | x
 ·rw [List.getElem?_eq_none_iff] at h9;omega
 ·cases x with
  | none=>rfl
  | some v =>
   obtain⟨u,c⟩:=h j a b ⟨v,h9⟩ i e;rw [hi] at c;cases c
theorem Later.set {ops:Array Oper}{vs:List (Option Value)}(h:Later ops vs){i:Nat}{o:Oper}{v:Value}(g:ops[i]? = some o)(hi:i < vs.length)(hd:∀ q,waitsFor o q→∃ v,vs[q]? = some (some v)):Later ops (vs.set i (some v)):=by
 intro j k d hv q f
 have e:∃ u,vs[q]? = some (some u):=by
  by_cases a:j=i
  ·subst a;rw [g] at d;cases d
   exact hd q f
  ·obtain⟨u,c⟩:=hv;rw [List.getElem?_set_ne (Ne.symm a)] at c
   exact h j k d ⟨u,c⟩ q f
 by_cases b:q=i
 ·subst b;exact⟨v,List.getElem?_set_self hi⟩
 ·obtain⟨u,c⟩:=e;exact⟨u,by rw [List.getElem?_set_ne (Ne.symm b)];exact c⟩
def V6 (P:Program)(ops:Array Oper)(w0:World)(a0:Act)(ds:List (Option Tmp))(R:Nat→Value→World→Prop)(Q:Exit→Act→World→Prop)(i:Nat)(o:Oper):Prop :=
 ∀ (vs:List (Option Value)) (w:World),vs.length=ds.length→(∀ j,waitsFor o j→∃ v,vs[j]? = some (some v)∧R j v w)→(∀ (j:Nat) oj,ops[j]? = some oj→waitsFor oj i→vs[j]? = some none)→Below w0.heap.size w0 w →
  o.wp P (puts ds vs a0) w (fun a' w'=>∃ v,a'=(puts ds vs a0).put o.dst v∧R i v w'∧Below w.heap.size w w') Q
theorem AU:∀ (vs:List (Option Value)) (i:Nat) (v:Value),vs[i]? = some none→((vs.set i (some v)).filter (·.isNone)).length < (vs.filter (·.isNone)).length
 | [],_,_,h=>by simp at h
 | x :: vs,0,v,h=>by
  have a:x=none:=by simpa using h
  subst a;simp
 | x :: vs,i+1,v,h=>by
  have:=AU vs i v (by simpa using h)
  cases x <;> simp at this ⊢ <;> omega
section
variable {P:Program} {ops:Array Oper} {Q:Exit→Act→World→Prop} {w0:World} {a0:Act} {R:Nat→Value→World→Prop}
theorem isSome_map {vs:List (Option Value)}{i:Nat}:(vs.map Option.isSome).toArray.getD i true=false↔vs[i]? = some none:=by
 rw [Array.getD_eq_getD_getElem?];simp only [List.getElem?_toArray,List.getElem?_map]
 cases h:vs[i]? with
 | none=>simp
 | some x=>cases x <;> simp
theorem tL {vs:List (Option Value)}{i:Nat}:(vs.map Option.isSome).toArray.getD i false=true↔∃ v,vs[i]? = some (some v):=by
 rw [Array.getD_eq_getD_getElem?];simp only [List.getElem?_toArray,List.getElem?_map]
 cases h:vs[i]? with
 | none=>simp
 | some x=>cases x <;> simp
theorem XV (hnd:once (ops.toList.map (·.dst))=true)(M:∀ (i:Nat) o,ops[i]? = some o→o.guard=none)(c:∀ (i:Nat) o,ops[i]? = some o→∀ e ∈ o.after,Region.binds .any e=true→e.on < i)
  (K:∀ i v w B,R i v w→Below w.heap.size w B→R i v B)
  (step:∀ (i:Nat) o,ops[i]? = some o→V6 P ops w0 a0 (ops.toList.map (·.dst)) R Q i o)
  (fin:∀ (vs:List (Option Value)) w,vs.length=ops.size→(∀ i,i < ops.size→∃ v,vs[i]? = some (some v)∧R i v w)→Below w0.heap.size w0 w→Q .normal (puts (ops.toList.map (·.dst)) vs a0) w) :
  ∀ (a:Nat) (vs:List (Option Value)) (w:World),vs.length=ops.size→(vs.filter (·.isNone)).length≤a→Below w0.heap.size w0 w→Later ops vs→(∀ i v,vs[i]? = some (some v)→R i v w) →
   wpAny P .any ops Q a (vs.map Option.isSome).toArray (puts (ops.toList.map (·.dst)) vs a0) w:=by
 have D:∀ (vs:List (Option Value)),vs.length=ops.size→Region.ready .any ops (vs.map Option.isSome).toArray=[]→∀ i,i < ops.size→∃ v,vs[i]? = some (some v):=by
  intro vs d f i
  induction i using Nat.strongRecOn with
  | _ i I =>
   intro hi;rcases h:vs[i]? with _ | x
   ·rw [List.getElem?_eq_none_iff] at h;omega
   cases x with
   | some v=>exact⟨v,rfl⟩
   | none =>
    have:i ∈ Region.ready .any ops (vs.map Option.isSome).toArray:=mem_ready.2 ⟨isSome_map.2 h,ops[i],Array.getElem?_eq_getElem hi,fun e k b=>tL.2 (I e.on (c i _ (Array.getElem?_eq_getElem hi) e k b) (by have:=c i _ (Array.getElem?_eq_getElem hi) e k b;omega))⟩
    rw [f] at this;cases this
 have done:∀ (vs:List (Option Value)) w,vs.length=ops.size→Below w0.heap.size w0 w→(∀ i v,vs[i]? = some (some v)→R i v w)→Region.ready .any ops (vs.map Option.isSome).toArray=[]→Q .normal (puts (ops.toList.map (·.dst)) vs a0) w:=fun vs w d b hv f =>
  fin vs w d (fun i hi=>by obtain⟨v,h⟩:=D vs d f i hi;exact⟨v,h,hv i v h⟩) b
 intro a
 induction a with
 | zero =>
  intro vs w d J b F hv
  have f:Region.ready .any ops (vs.map Option.isSome).toArray=[]:=by
   rcases h:Region.ready .any ops (vs.map Option.isSome).toArray with _ | ⟨i,r⟩
   ·rfl
   ·have hi:i ∈ Region.ready .any ops (vs.map Option.isSome).toArray:=by rw [h];exact List.mem_cons_self ..
    have h1:=isSome_map.1 (mem_ready.1 hi).1;have h2:none ∈ vs.filter (·.isNone):=List.mem_filter.2 ⟨aiy h1,rfl⟩;rw [List.eq_nil_of_length_eq_zero (Nat.le_zero.1 J)] at h2
    cases h2
  exact⟨f,done vs w d b hv f⟩
 | succ a I =>
  intro vs w d J b F hv
  refine⟨done vs w d b hv,fun i hi=>?_⟩
  obtain⟨h1,o,y,h2⟩:=mem_ready.1 hi;have C:=isSome_map.1 h1;have n:i < vs.length:=(aiq.1 C).1
  have H:=step i o y vs w (by simpa using d) (fun j l=>by
   obtain⟨e,k,g,rfl⟩:=l;obtain⟨v,h⟩:=tL.1 (h2 e k g);exact⟨v,h,hv _ _ h⟩) (F.none d C) b
  unfold wpOp;rw [y]
  have G:Region.wanted o (yielded ops (puts (ops.toList.map (·.dst)) vs a0).tmps)=true:=by
   unfold Region.wanted;rw [M i o y]
  simp only [G,if_true];refine .inl (Oper.wp_mono (fun S B ⟨v,L,f,m⟩=>?_) H)
  have hd:o.dst=(ops.toList.map (·.dst)).getD i none:=by
   rw [ait,List.getElem?_map,Array.getElem?_toList,y];rfl
  rw [L,hd,← yx _ vs a0 i v hnd (by simpa using d) C]
  have A:(vs.map Option.isSome).toArray.setIfInBounds i true=((vs.set i (some v)).map Option.isSome).toArray:=by
   simp [List.map_set]
  rw [A];refine I (vs.set i (some v)) B (by simpa using d) ?_ (b.trans (m.mono b.size)) (F.set y n (fun q ⟨e,k,g,N⟩=>by rw [← N];exact tL.1 (h2 e k g))) (fun j u l=>?_)
  ·have:=AU vs i v C
   omega
  ·by_cases t:j=i
   ·subst t;rw [List.getElem?_set_self n] at l
    cases l;exact f
   ·rw [List.getElem?_set_ne (Ne.symm t)] at l
    exact K j u w B (hv j u l) m
theorem XW (hnd:once (ops.toList.map (·.dst))=true)(I:∀ (i:Nat) o,ops[i]? = some o→o.guard=none)(a:∀ (i:Nat) o,ops[i]? = some o→∀ e ∈ o.after,Region.binds .any e=true→e.on < i)
  (G:∀ i v w n,R i v w→Below w.heap.size w n→R i v n)
  (step:∀ (i:Nat) o,ops[i]? = some o→V6 P ops w0 a0 (ops.toList.map (·.dst)) R Q i o)
  (fin:∀ (vs:List (Option Value)) w,vs.length=ops.size→(∀ i,i < ops.size→∃ v,vs[i]? = some (some v)∧R i v w)→Below w0.heap.size w0 w→Q .normal (puts (ops.toList.map (·.dst)) vs a0) w) :
  ∀ (k i:Nat) (vs:List (Option Value)) (w:World),i+k=ops.size→vs.length=ops.size→(∀ j,j < i→∃ v,vs[j]? = some (some v))→(∀ j,i≤j→j < ops.size→vs[j]? = some none)→Below w0.heap.size w0 w→Later ops vs→(∀ i v,vs[i]? = some (some v)→R i v w) →
   wpOps P ops Q (List.range' i k) (puts (ops.toList.map (·.dst)) vs a0) w:=by
 intro k
 induction k with
 | zero =>
  intro i vs w y g hd B l r hv;exact fin vs w g (fun j c=>by obtain⟨v,h⟩:=hd j (by omega);exact⟨v,h,hv j v h⟩) l
 | succ k L =>
  intro i vs w y g hd B l r hv;have hi:i < ops.size:=by omega
  have f:ops[i]? = some ops[i]:=Array.getElem?_eq_getElem hi;have F:=B i (aiv _) hi
  have D:=step i _ f vs w (by simpa using g) (fun j c=>by
   obtain⟨e,x,d,rfl⟩:=c;obtain⟨v,h⟩:=hd e.on (a i _ f e x d);exact⟨v,h,hv _ _ h⟩) (r.none g F) l
  rw [List.range'_succ,wpOps_cons];unfold wpOp;rw [f]
  have C:Region.wanted ops[i] (yielded ops (puts (ops.toList.map (·.dst)) vs a0).tmps)=true:=by
   unfold Region.wanted;rw [I i _ f]
  simp only [C,if_true];refine .inl (Oper.wp_mono (fun M n ⟨v,H,K,m⟩=>?_) D)
  have t:(ops[i]).dst=(ops.toList.map (·.dst)).getD i none:=by
   rw [ait,List.getElem?_map,Array.getElem?_toList,f];rfl
  rw [H,t,← yx _ vs a0 i v hnd (by simpa using g) F];refine L (i+1) (vs.set i (some v)) n (by omega) (by simpa using g) (fun j c=>?_) (fun j c A=>?_) (l.trans (m.mono l.size)) (r.set f (by omega) (fun q ⟨e,x,d,J⟩=>by rw [← J];exact hd e.on (a i _ f e x d))) (fun j u c=>?_)
  ·by_cases b:j=i
   ·subst b;exact⟨v,List.getElem?_set_self (by omega)⟩
   ·rw [List.getElem?_set_ne (Ne.symm b)];exact hd j (by omega)
  ·rw [List.getElem?_set_ne (by omega)];exact B j (by omega) A
  ·by_cases b:j=i
   ·subst b;rw [List.getElem?_set_self (by omega)] at c
    cases c;exact K
   ·rw [List.getElem?_set_ne (Ne.symm b)] at c
    exact G j u w n (hv j u c) m
end
end
set_option linter.all false
section
open Go.RowKit Mist
theorem addN (b o n:Nat):(⟨b,o,none⟩:Addr).add n=⟨b,o+n,none⟩:=by
 unfold Addr.add;split
 ·rename_i h;subst h;rfl
 ·rfl
def iY (p:Pz):List Value:=[.string (aU p.text),.bool p.blank]
def eD (l:List Pz):List Value:=l.flatMap iY
theorem CK (l:List Pz):(eD l).length=l.length * 2:=by
 induction l with
 | nil=>rfl
 | cons t r a=>simp [eD,iY] at a ⊢;omega
theorem uX (l m:List Pz):eD (l ++ m)=eD l ++ eD m:=by simp [eD]
theorem rD (l:List Pz):∀ u ∈ eD l,u.oneCell'=true:=by
 intro u a;obtain⟨p,_,a⟩:=List.mem_flatMap.1 a;simp [iY] at a
 rcases a with rfl | rfl <;> rfl
theorem Fj (l:List Pz):∀ (k j:Nat) (p:Pz) (u:Value),l[k]? = some p→(iY p)[j]? = some u→(eD l)[k * 2+j]? = some u:=by
 induction l with
 | nil=>intro k j p u h;simp at h
 | cons t r b =>
  intro k j p u h a;have e:eD (t :: r)=iY t ++ eD r:=by simp [eD]
  have h3:(iY t).length=2:=rfl;rw [e]
  cases k with
  | zero =>
   have:t=p:=by simpa using h
   subst this;have c:j < 2:=(aiq.1 a).1;rw [List.getElem?_append_left (by omega),Nat.zero_mul,Nat.zero_add];exact a
  | succ k =>
   rw [List.getElem?_append_right (by omega),h3,show (k+1) * 2+j - 2=k * 2+j by omega];exact b k j p u (by simpa using h) a
def bt (p:Pz):Bs × Bool:=(p.text,p.blank)
theorem Rn {l m:List Pz}(h:l.map bt=m.map bt):eD l=eD m:=by
 induction l generalizing m with
 | nil=>cases m with
  | nil=>rfl
  | cons _ _=>cases h
 | cons a l c=>cases m with
  | nil=>cases h
  | cons b m =>
   simp only [List.map_cons,List.cons.injEq] at h
   have e:iY a=iY b:=by
    have h1:=h.1;unfold bt at h1
    injection h1 with h1 h2
    unfold iY;rw [h1,h2]
   show iY a ++ eD l=iY b ++ eD m
   rw [e,c h.2]
structure jI (w:World) (A:Option Addr) (l:List Pz):Prop where
 ex:0 < l.length→∃ b o,A=some ⟨b,o,none⟩∧b < w.heap.size∧∀ (j:Nat) u,(eD l)[j]? = some u→w.cell? ⟨b,o+j,none⟩=some u
theorem jI.below {w d:World}{A:Option Addr}{l:List Pz}(h:jI w A l)(a:Below w.heap.size w d):jI d A l :=
 ⟨fun h0=>by
  obtain⟨b,o,e,c,f⟩:=h.ex h0;exact⟨b,o,e,aiI c a.size,fun j k g=>(a.cell (by exact c)).trans (f j k g)⟩⟩
theorem jI.re {w:World}{A:Option Addr}{l m:List Pz}(h:jI w A l)(e:l.map bt=m.map bt):jI w A m:=by
 have g:l.length=m.length:=by have:=congrArg List.length e;simpa using this
 exact⟨fun h0=>by
  obtain⟨b,o,a,d,c⟩:=h.ex (by omega);exact⟨b,o,a,d,fun j u f=>c j u (by rw [Rn e];exact f)⟩⟩
theorem jI.reads {w:World}{A:Option Addr}{l:List Pz}(h:jI w A l):Reads w w.heap.size 2 A l.length (eD l):=by
 refine⟨CK l,fun h0=>?_⟩
 obtain⟨b,o,rfl,c,a⟩:=h.ex h0
 refine⟨⟨b,o,none⟩,rfl,c,fun j u d=>?_⟩
 rw [addN];exact a j u d
theorem jI.own {w:World}{base e:Nat}{A:Option Addr}{n c:Nat}{l:List Pz}(h:w.ownsRow base e 2 (.slice A n c) n (eD l))(f:n=l.length):jI w A l:=by
 subst f
 refine⟨fun h0=>?_⟩
 obtain⟨g,cap,hv,_,a⟩:=h.form h0;have b:A=some ⟨g,0,none⟩:=by injection hv
 subst b
 refine⟨g,0,rfl,a,fun j k d=>?_⟩
 have:=h.cells (g:=g) rfl j k d
 rw [addN] at this
 exact this
theorem tY:(Tryz.prog.info? 69).map (fun i=>(i.zero,i.size,i.bytes))=some (some (.agg #[.string ByteArray.empty,.bool false]),2,24):=by kernel_rfl
end
set_option linter.all false
section
open Go Go.RowKit Mist
inductive SV
 | v (x:Value)
 | bits (l:List Pz)
 | strs (ts:List Bs)
 | rows (ls:List (List Pz))
 | cell (t:Bs)
def kJ:SV→Value→World→Prop
 | .v x,y,_=>y=x
 | .bits l,y,w=>∃ A c,y=.slice A l.length c∧jI w A l
 | .strs ts,y,w=>∃ b,y=.slice (some ⟨b,0,none⟩) ts.length ts.length∧b < w.heap.size∧∀ (j:Nat) t,ts[j]? = some t→w.cell? ⟨b,j,none⟩=some (.string (aU t))
 | .rows ls,y,w=>∃ b,y=.slice (some ⟨b,0,none⟩) ls.length ls.length∧b < w.heap.size∧∀ (j:Nat) l,ls[j]? = some l→∃ A c,w.cell? ⟨b,j,none⟩=some (.slice A l.length c)∧jI w A l
 | .cell t,y,w=>∃ b j,y=.pointer (some ⟨b,j,none⟩)∧b < w.heap.size∧w.cell? ⟨b,j,none⟩=some (.string (aU t))
theorem kJ.below {s:SV}{y:Value}{w i:World}(h:kJ s y w)(a:Below w.heap.size w i):kJ s y i:=by
 cases s with
 | v x=>exact h
 | bits l=>obtain⟨A,c,e,g⟩:=h;exact⟨A,c,e,g.below a⟩
 | strs q=>obtain⟨b,e,d,f⟩:=h;exact⟨b,e,aiI d a.size,fun j t n=>(a.cell (by exact d)).trans (f j t n)⟩
 | rows ls =>
  obtain⟨b,e,d,f⟩:=h;exact⟨b,e,aiI d a.size,fun j l m=>by obtain⟨A,c,k,g⟩:=f j l m;exact⟨A,c,(a.cell (by exact d)).trans k,g.below a⟩⟩
 | cell t=>obtain⟨b,j,e,d,f⟩:=h;exact⟨b,j,e,aiI d a.size,(a.cell (by exact d)).trans f⟩
def posOf (k:Nat):List (Option Tmp)→Option Nat
 | []=>none
 | some d :: r=>bif Nat.beq d k then some 0 else (posOf k r).map (·+1)
 | none :: r=>(posOf k r).map (·+1)
theorem rJ {k:Nat}:∀ {ds:List (Option Tmp)} {j:Nat},posOf k ds=some j→ds[j]? = some (some k)
 | [],_,h=>by cases h
 | some d :: r,j,h=>by
  unfold posOf at h
  cases hd:Nat.beq d k with
  | true =>
   rw [hd] at h
   cases h;rw [Nat.eq_of_beq_eq_true hd];rfl
  | false =>
   rw [hd] at h
   simp only [cond_false,Option.map_eq_some_iff] at h
   obtain⟨q,a,rfl⟩:=h;exact rJ (ds:=r) a
 | none :: r,j,h=>by
  simp only [posOf,Option.map_eq_some_iff] at h
  obtain⟨q,a,rfl⟩:=h;exact rJ (ds:=r) a
theorem vO {k:Nat}:∀ {ds:List (Option Tmp)},posOf k ds=none→ds.contains (some k)=false
 | [],_=>rfl
 | some d :: r,h=>by
  unfold posOf at h
  cases hd:Nat.beq d k with
  | true=>rw [hd] at h;cases h
  | false =>
   rw [hd] at h
   simp only [cond_false,Option.map_eq_none_iff] at h
   have h1:=vO (ds:=r) h;have h2:d ≠ k:=fun e=>by rw [e] at hd;simp at hd
   simp at h1 ⊢
   exact⟨fun e=>h2 e.symm,h1⟩
 | none :: r,h=>by
  simp only [posOf,Option.map_eq_none_iff] at h
  have h1:=vO (ds:=r) h;simp at h1 ⊢
  exact h1
def Iu (a0:Act)(ds:List (Option Tmp))(acc:List SV):Operand→SV
 | .tmp k=>match posOf k ds with
  | some j=>bif Nat.blt j acc.length then acc.getD j (.v undef) else .v (a0.tmps.getD k undef)
  | none=>.v (a0.tmps.getD k undef)
 | .const v=>.v v
 | .global g=>.v (.pointer (some ⟨g,0,none⟩))
 | .func f=>.v (.func (.func f) #[] #[])
theorem abk {a0:Act}{ds:List (Option Tmp)}{a:List SV}{k j:Nat}(h:posOf k ds=some j)(b:j < a.length):Iu a0 ds a (.tmp k)=a.getD j (.v undef):=by unfold Iu;simp only [h];rw [show Nat.blt j a.length=true by simpa [Nat.blt_eq] using b];rfl
theorem Pb {a0:Act}{ds:List (Option Tmp)}{a:List SV}{k j:Nat}(h:posOf k ds=some j)(b:¬ j < a.length):Iu a0 ds a (.tmp k)=.v (a0.tmps.getD k undef):=by unfold Iu;simp only [h];rw [show Nat.blt j a.length=false from Bool.eq_false_iff.2 fun h=>b (by simpa [Nat.blt_eq] using h)];rfl
theorem Y1 {a0:Act}{ds:List (Option Tmp)}{a:List SV}{k:Nat}(h:posOf k ds=none):Iu a0 ds a (.tmp k)=.v (a0.tmps.getD k undef):=by unfold Iu;simp only [h]
def iP (P:Program)(w0:World)(Q:Exit→Act→World→Prop)(E:Operand→SV)(o:Oper)(sv:SV):Prop :=
 ∀ (a:Act) (w:World),(∀ x ∈ o.op.operands,kJ (E x) (a.eval x) w)→Below w0.heap.size w0 w→o.wp P a w (fun a' w'=>∃ v,a'=a.put o.dst v∧kJ sv v w'∧Below w.heap.size w w') Q
inductive Runs (P:Program) (w0:World) (Q:Exit→Act→World→Prop) (a0:Act) (ds:List (Option Tmp)):List Oper→List SV→List SV→Prop
 | nil {acc:List SV}:Runs P w0 Q a0 ds [] acc acc.reverse
 | cons {o:Oper} {r:List Oper} {acc out:List SV} {sv:SV} (h:iP P w0 Q (Iu a0 ds acc.reverse) o sv) (t:Runs P w0 Q a0 ds r (sv :: acc) out):Runs P w0 Q a0 ds (o :: r) acc out
def Qs (n:Nat)(l:List Oper):Bool :=
 once (l.map (·.dst)) && l.zipIdx.all fun (o,i)=>o.guard.isNone && o.after.all (fun e=>!Region.binds .any e || decide (e.on < i)) && o.op.operands.all fun
  | .tmp k=>match posOf k (l.map (·.dst)) with
   | some j=>bif Nat.blt j i then o.after.any (fun e=>Region.binds .any e && Nat.beq e.on j) && decide (k < n) else l.zipIdx.any fun (oj,q)=>Nat.beq q j && oj.after.any (fun e=>Region.binds .any e && Nat.beq e.on i)
   | none=>true
  | _=>true
section
variable {P:Program} {w0:World} {Q:Exit→Act→World→Prop} {a0:Act} {ds:List (Option Tmp)}
theorem Runs.get {l:List Oper}{a out:List SV}(h:Runs P w0 Q a0 ds l a out):(∃ t,out=a.reverse ++ t∧t.length=l.length)∧∀ (i:Nat) o,l[i]? = some o→iP P w0 Q (Iu a0 ds (out.take (a.length+i))) o (out.getD (a.length+i) (.v undef)):=by
 induction h with
 | nil=>exact⟨⟨[],by simp,rfl⟩,fun i o h=>by simp at h⟩
 | @cons o r a out sv h t b =>
  obtain⟨⟨g,e,f⟩,b⟩:=b;rw [List.reverse_cons] at e
  refine⟨⟨sv :: g,by rw [e];simp,by simp [f]⟩,fun i o2 h2=>?_⟩
  cases i with
  | zero =>
   have:o=o2:=by simpa using h2
   subst this;have c:out.take (a.length+0)=a.reverse:=by rw [e];simp
   have d:out.getD (a.length+0) (.v undef)=sv:=by rw [e,ait];simp
   rw [c,d];exact h
  | succ i =>
   have:=b i o2 (by simpa using h2)
   rw [List.length_cons,Nat.add_assoc,Nat.add_comm 1 i] at this
   exact this
def jC:List (Option Tmp)→Nat→(Nat→Value)→Act→Act
 | [],_,_,a=>a
 | d :: r,k,f,a=>jC r (k+1) f (a.put d (f k))
theorem F4:∀ (ds:List (Option Tmp)) (vs:List (Option Value)) (k:Nat) (f:Nat→Value) (a:Act),vs.length=ds.length→(∀ i,i < ds.length→vs[i]? = some (some (f (k+i))))→puts ds vs a=jC ds k f a
 | [],_,_,_,_,_,_=>by simp [puts,jC]
 | d :: r,[],_,_,_,h,_=>by simp at h
 | d :: r,x :: vs,k,f,a,hl,h=>by
  have h0:x=some (f k):=by simpa using h 0 (by simp)
  subst h0;rw [puts,jC]
  exact F4 r vs (k+1) f _ (by simpa using hl) fun i hi=>by
   have:=h (i+1) (by simp;omega)
   rw [show k+1+i=k+(i+1) by omega]
   simpa using this
theorem F3:∀ (ds:List (Option Tmp)) (n:Nat) (a:Act),puts ds (List.replicate n none) a=a
 | [],n,a=>by simp [puts]
 | _ :: _,0,a=>by simp [puts]
 | d :: r,n+1,a=>by rw [List.replicate_succ,puts];exact F3 r n a
theorem K8 {l:List Oper}{a:Act}{w0:World}{out:List SV}{Q:Exit→Act→World→Prop}(n:Nat)(hn:a.tmps.size=n)(C:Qs n l=true)(G:Runs P w0 Q a (l.map (·.dst)) l [] out)
  (fin:∀ (f:Nat→Value) r,(∀ i,i < l.length→kJ (out.getD i (.v undef)) (f i) r)→Below w0.heap.size w0 r→Q .normal (jC (l.map (·.dst)) 0 f a) r) :
  ∃ R:Nat→Value→World→Prop,once (l.toArray.toList.map (·.dst))=true∧(∀ (i:Nat) o,l.toArray[i]? = some o→o.guard=none)∧(∀ (i:Nat) o,l.toArray[i]? = some o→∀ e ∈ o.after,Region.binds .any e=true→e.on < i) ∧
   (∀ i v w r,R i v w→Below w.heap.size w r→R i v r)∧(∀ (i:Nat) o,l.toArray[i]? = some o→V6 P l.toArray w0 a (l.toArray.toList.map (·.dst)) R Q i o) ∧
   (∀ (vs:List (Option Value)) w,vs.length=l.toArray.size→(∀ i,i < l.toArray.size→∃ v,vs[i]? = some (some v)∧R i v w)→Below w0.heap.size w0 w→Q .normal (puts (l.toArray.toList.map (·.dst)) vs a) w):=by
 unfold Qs at C
 simp only [aiE,aiD] at C
 obtain⟨h1,h2⟩:=C
 have d:∀ (i:Nat) o,l[i]? = some o→o.guard.isNone=true∧(∀ e ∈ o.after,Region.binds .any e=true→e.on < i)∧∀ k,.tmp k ∈ o.op.operands→∀ j,posOf k (l.map (·.dst))=some j→(j < i→waitsFor o j∧k < n)∧(¬ j < i→∃ D,l[j]? = some D∧waitsFor D i):=by
  intro i o y
  have:=h2 (o,i) (by rw [List.mem_zipIdx_iff_getElem?];exact y)
  simp only [aiE,Array.all_eq_true_iff_forall_mem,Bool.or_eq_true,Bool.not_eq_true',decide_eq_true_eq] at this
  refine⟨this.1.1,fun e B c=>?_,fun k K j m=>⟨fun b=>?_,fun b=>?_⟩⟩
  ·rcases this.1.2 e B with h | h
   ·rw [c] at h;cases h
   ·exact h
  ·have h3:=this.2 _ K;simp only [m] at h3
   rw [show Nat.blt j i=true by simpa [Nat.blt_eq] using b] at h3
   simp only [cond_true,aiE,decide_eq_true_eq] at h3
   obtain⟨e,B,c⟩:=Array.any_eq_true'.1 h3.1;simp only [aiE] at c
   exact⟨⟨e,B,c.1,Nat.eq_of_beq_eq_true c.2⟩,h3.2⟩
  ·have h3:=this.2 _ K;simp only [m] at h3
   rw [show Nat.blt j i=false from Bool.eq_false_iff.2 fun h=>b (by simpa [Nat.blt_eq] using h)] at h3
   simp only [cond_false,List.any_eq_true] at h3
   obtain⟨⟨D,q⟩,W,N⟩:=h3;simp only [aiE] at N
   have Y:=Nat.eq_of_beq_eq_true N.1;subst Y;obtain⟨e,B,c⟩:=Array.any_eq_true'.1 N.2;simp only [aiE] at c
   exact⟨D,by rw [List.mem_zipIdx_iff_getElem?] at W;exact W,e,B,c.1,Nat.eq_of_beq_eq_true c.2⟩
 obtain⟨⟨t,U,S⟩,u⟩:=G.get;simp only [List.reverse_nil,List.nil_append] at U
 simp only [List.length_nil,Nat.zero_add] at u
 have J:∀ (i:Nat) o,l[i]? = some o→∀ j,waitsFor o j→j < i:=fun i o y j ⟨e,B,c,m⟩=>by rw [← m];exact (d i o y).2.1 e B c
 refine⟨fun i v r=>kJ (out.getD i (.v undef)) v r,by simpa using h1,fun i o y=>by have:=(d i o (by simpa using y)).1;simpa using this,fun i o y=>(d i o (by simpa using y)).2.1,fun i v w r h c=>h.below c,?_,?_⟩
 ·intro i o y vs w1 V I F c;have A:l[i]? = some o:=by simpa using y
  have Z:i < l.length:=(aiq.1 A).1;have H:(out.take i).length=i:=by rw [List.length_take,U,S];omega
  refine u i o A (puts (l.toArray.toList.map (·.dst)) vs a) w1 (fun x X=>?_) c
  cases x with
  | const v=>rfl
  | global g=>rfl
  | func f=>rfl
  | tmp k =>
   show kJ (Iu a (l.map (·.dst)) (out.take i) (.tmp k)) ((puts (l.map (·.dst)) vs a).tmps.getD k undef) w1
   rcases m:posOf k (l.map (·.dst)) with _ | j
   ·rw [Y1 m];exact tQ _ _ _ _ (vO m)
   ·by_cases b:j < i
    ·rw [abk m (by rw [H];exact b)];obtain⟨T,K⟩:=((d i o A).2.2 k X j m).1 b;obtain⟨v,hv,G⟩:=I j T;rw [Ih _ vs a j k v h1 (rJ m) hv (by omega)]
     have:(out.take i).getD j (.v undef)=out.getD j (.v undef):=by
      rw [ait,ait,List.getElem?_take,if_pos b]
     rw [this];exact G
    ·rw [Pb m (by rw [H];exact b)];obtain⟨D,M,T⟩:=((d i o A).2.2 k X j m).2 b;exact zN _ vs a j k h1 (rJ m) (F j D (by simpa using M) T)
 ·intro vs r V hv c;have L:vs.length=(l.map (·.dst)).length:=by simpa using V
  show Q .normal (puts (l.map (·.dst)) vs a) r
  rw [F4 (l.map (·.dst)) vs 0 (fun i=>(vs.getD i none).getD undef) a L (fun i hi=>by
   obtain⟨v,h,_⟩:=hv i (by simpa using hi);rw [ait,Nat.zero_add,h];rfl)]
  refine fin _ r (fun i hi=>?_) c;obtain⟨v,h,G⟩:=hv i (by simpa using hi);have e:(vs.getD i none).getD undef=v:=by rw [ait,h];rfl
  rw [e];exact G
theorem D5 {l:List Oper}{a:Act}:puts (l.toArray.toList.map (·.dst)) (List.replicate l.length none) a=a:=F3 _ _ _
theorem XM {l:List Oper}{n:Nat}:Later l.toArray (List.replicate n none):=fun j a _ ⟨v,h⟩=>by rw [List.getElem?_replicate] at h;split at h <;> cases h
theorem dx {id:Nat}{l:List Oper}{a:Act}{w:World}{out:List SV}(n:Nat)(j:P.follows .mixedOrders=true)(k:a.tmps.size=n)(d:Qs n l=true)(m:Runs P w.drew Q a (l.map (·.dst)) l [] out)
  (fin:∀ (f:Nat→Value) c,(∀ i,i < l.length→kJ (out.getD i (.v undef)) (f i) c)→Below w.heap.size w c→Q .normal (jC (l.map (·.dst)) 0 f a) c):(Code.region id l.toArray true).wp P Q a w:=by
 obtain⟨R,h1,h2,h3,h4,h5,h6⟩:=K8 n k d m (fun f c h g=>fin f c h ((Below.refl _ _).drew.trans g));have b:=XV h1 h2 h3 h4 h5 h6 l.length (List.replicate l.length none) w.drew (by simp) (by simp) (Below.refl _ _) XM (fun i v h=>by rw [List.getElem?_replicate] at h;split at h <;> cases h);have e:((List.replicate l.length (none:Option Value)).map Option.isSome).toArray=Array.replicate l.toArray.size false:=by simp
 rw [e,D5] at b
 exact wp_region_any j b
theorem eU {id:Nat}{l:List Oper}{a:Act}{w:World}{out:List SV}(n:Nat)(e:a.tmps.size=n)(c:Qs n l=true)(g:Runs P w Q a (l.map (·.dst)) l [] out)
  (fin:∀ (f:Nat→Value) w',(∀ i,i < l.length→kJ (out.getD i (.v undef)) (f i) w')→Below w.heap.size w w'→Q .normal (jC (l.map (·.dst)) 0 f a) w'):(Code.region id l.toArray false).wp P Q a w:=by
 obtain⟨R,h1,h2,h3,h4,h5,h6⟩:=K8 n e c g fin;have b:=XW h1 h2 h3 h4 h5 h6 l.length 0 (List.replicate l.length none) w (by simp) (by simp) (fun j d=>by omega) (fun j _ d=>by rw [List.getElem?_replicate,if_pos (by simpa using d)]) (Below.refl _ _) XM (fun i v h=>by rw [List.getElem?_replicate] at h;split at h <;> cases h);rw [D5] at b
 refine wp_region ?_;rw [List.range_eq_range'];exact b
end
end
set_option linter.all false
section
open Go Go.RowKit Mist
section
variable {P:Program} {w0:World} {Q:Exit→Act→World→Prop} {E:Operand→SV} {o:Oper}
theorem mF {b:SV}(h:∀ (a:Act) (w:World),(∀ x ∈ o.op.operands,kJ (E x) (a.eval x) w)→Below w0.heap.size w0 w→∃ u,(execOp a.eval o).run P w=.ok (.value u) w∧kJ b u w):iP P w0 Q E o b:=fun a w d c=>by
 obtain⟨u,h1,h2⟩:=h a w d c;unfold Oper.wp;rw [h1];exact⟨u,rfl,h2,Below.refl _ _⟩
theorem fM {x:Operand}(h:o.op=.move x∨o.op=.assign x):iP P w0 Q E o (E x):=mF fun a w b c=>by
 rcases h with h | h
 ·exact⟨a.eval x,by unfold execOp;rw [h];rfl,b x (by rw [h];simp [Op.operands])⟩
 ·exact⟨a.eval x,by unfold execOp;rw [h];rfl,b x (by rw [h];simp [Op.operands])⟩
theorem nN {x:Operand}{A:Option Addr}{c n:Nat}{l:List Pz}(h:o.op=.move x∨o.op=.assign x)(e:E x=.v (.slice A n c))(f:n=l.length)(b:jI w0 A l):iP P w0 Q E o (.bits l):=mF fun a w g d=>by
 subst f;have hv:x ∈ o.op.operands:=by rcases h with h | h <;> (rw [h];simp [Op.operands])
 have h1:=g x hv;rw [e] at h1
 refine⟨a.eval x,?_,A,c,h1,b.below d⟩
 rcases h with h | h <;> (unfold execOp;rw [h];rfl)
theorem d_ {t:TypeId}{x:Operand}{p u:Value}(h:o.op=.load t x)(e:E x=.v p)(c:∀ w,Below w0.heap.size w0 w→(Instr.loadAt t p).run P w=.ok u w):iP P w0 Q E o (.v u):=mF fun a w d b=>by
 have h1:a.eval x=p:=by have:=d x (by rw [h];simp [Op.operands]);rw [e] at this;exact this
 refine⟨u,?_,rfl⟩
 unfold execOp;simp only [h,h1,Sem.run_bind,c w b,Result.andThen_ok,Sem.run_pure]
theorem lN {t f:Nat}{x:Operand}{p u:Value}(h:o.op=.fieldAddr t x f)(e:E x=.v p)(b:∀ w,(Instr.fieldAt t p f).run P w=.ok u w):iP P w0 Q E o (.v u):=mF fun a w c d=>by
 have h1:a.eval x=p:=by have:=c x (by rw [h];simp [Op.operands]);rw [e] at this;exact this
 refine⟨u,?_,rfl⟩
 unfold execOp;simp only [h,h1,Sem.run_bind,b w,Result.andThen_ok,Sem.run_pure]
theorem zU {b:BinOp}{t g:TypeId}{x y:Operand}{p q u:Value}(h:o.op=.binOp b t x y g)(d:E x=.v p)(e:E y=.v q)(f:∀ w,(do eqGuard b t x y p q;binOp b t p q:Sem Value).run P w=.ok u w):iP P w0 Q E o (.v u):=mF fun a w c i=>by
 have h1:a.eval x=p:=by have:=c x (by rw [h];simp [Op.operands]);rw [d] at this;exact this
 have h2:a.eval y=q:=by have:=c y (by rw [h];simp [Op.operands]);rw [e] at this;exact this
 refine⟨u,?_,rfl⟩
 unfold execOp;simp only [h,h1,h2];rw [Sem.run_bind,f w];simp only [Result.andThen_ok,Sem.run_pure]
theorem O9 {x:Operand}{t:TypeId}{A:Option Addr}{n c:Nat}{d:Array TypeId}(b:d=#[t])(h:o.op=.call { callee:=.builtin .len,args:=#[x],argTypes:=d })(e:E x=.v (.slice A n c))(f:P.underlying t=some (.slice (P.elem t))):iP P w0 Q E o (.v (.int .i64 n)):=mF fun a w g i=>by
 subst b;have h1:a.eval x=.slice A n c:=by have:=g x (by rw [h];simp [Op.operands,Call.operands]);rw [e] at this;exact this
 refine⟨_,?_,rfl⟩
 unfold execOp;simp only [h,resolve,invoke,builtin,Sem.run_bind,Sem.run_pure,Result.andThen_ok,List.map_toArray,List.map_cons,List.map_nil,h1,run_len_slice _ t _ A n c f,goInt]
theorem JE:∀ (xs:List Value) (k:Nat) (a:Array Value),(∀ x ∈ xs,x.cells.size=1)→a.size=k+xs.length →
  Instr.fill (fun i=>some (i * 1,1)) a ((xs.zipIdx k).map fun p=>(p.2,p.1))=some ((a.toList.take k ++ (xs.flatMap fun x=>x.cells.toList)).toArray)
 | [],k,a,_,hs=>by
  have:a.toList.take k=a.toList:=aiz (by simp at hs ⊢;omega)
  simp [Instr.fill,this]
 | x :: xs,k,a,h1,hs=>by
  have f:=h1 x (List.mem_cons_self ..)
  obtain⟨c,d⟩:∃ c,x.cells=#[c]:=by
   rcases b:x.cells with ⟨l⟩
   rw [b] at f
   match l,f with
   | [c],_=>exact⟨c,rfl⟩
  have g:k < a.size:=by rw [hs];simp
  simp only [List.zipIdx_cons,List.map_cons,Instr.fill,d];rw [if_neg (by simp;omega)];have e:(#[c].zipIdx.foldl (fun (cs:Array Value) (p:Value × Nat)=>cs.setIfInBounds (k * 1+p.2) p.1) a)=a.setIfInBounds k c:=by simp
  rw [e,JE xs (k+1) _ (fun y hy=>h1 y (List.mem_cons_of_mem _ hy)) (by simp at hs ⊢;omega)]
  congr 2
  simp only [List.flatMap_cons,d,Array.toList_setIfInBounds];rw [List.take_add_one,List.take_set_of_le (aiv k),List.getElem?_set_self (by simpa using g)];simp
def partsOf (n:Nat)(parts:Array (Nat × Operand)):Prop:=parts.toList=((parts.toList.map (·.2)).zipIdx 0).map (fun p=>(p.2,p.1))∧parts.size=n
theorem Ga {t e:TypeId}{i:TypeInfo}{z:Value}{n:Nat}{b:Array (Nat × Operand)}(d:Operand→Value)(F:P.underlying t=some (.slice e))(hi:P.info? e=some i)(C:i.zero=some z)(B:i.size=1)(G:z.cells.size=1)(J:n≤1000)(u:partsOf n b)
  (h1:∀ x ∈ b.toList.map (·.2),(d x).cells=#[d x]) (w:World):(Instr.buildSlice t n (b.map fun (i,x)=>(i,d x))).run P w=.ok (.slice (some ⟨w.heap.size,0,none⟩) n n) (w.alloc (.cells ((b.toList.map fun p=>d p.2).toArray) e)):=by
 obtain⟨y,A⟩:=u
 have D:(b.map fun (i,x)=>(i,d x)).toList=(((b.toList.map fun p=>d p.2).zipIdx 0).map fun p=>(p.2,p.1)):=by
  rw [Array.toList_map]
  conv=>lhs;rw [y]
  simp [List.zipIdx_map,List.map_map,Function.comp_def]
 have j:(b.toList.map fun p=>d p.2).length=n:=by rw [List.length_map,Array.length_toList,A]
 have r:∀ (l:List (Nat × Operand)),(∀ x ∈ l.map (·.2),(d x).cells=#[d x])→(l.map fun p=>d p.2).flatMap (fun x=>x.cells.toList)=l.map fun p=>d p.2:=by
  intro l
  induction l with
  | nil=>intro _;rfl
  | cons a l H =>
   intro h;simp only [List.map_cons,List.flatMap_cons,h a.2 (by simp),H (fun x k=>h x (by simp at k ⊢;exact .inr k))];rfl
 have m:∀ c:Array Value,c.size=n→Instr.fill (fun i=>some (i * 1,1)) c (b.map fun (i,x)=>(i,d x)).toList=some ((b.toList.map fun p=>d p.2).toArray):=by
  intro c q
  rw [D,JE _ 0 c (fun x k=>by
   obtain⟨p,u,rfl⟩:=List.mem_map.1 k;rw [h1 p.2 (List.mem_map.2 ⟨p,u,rfl⟩)];rfl) (by rw [q,j,Nat.zero_add])]
  rw [r _ h1];simp
 have I:¬ n * 1 > 2 ^ 24:=by omega
 simp only [Instr.buildSlice,Sem.run_bind,run_underlying F,Result.andThen_ok,sizeOf,typeInfo,hi,B,Sem.run_pure];have f:∀ c:Array Value,c.size=n→Instr.fill (fun i=>some (i,1)) c (b.toList.map fun x=>(x.fst,d x.snd))=some ((b.toList.map fun p=>d p.2).toArray):=fun c q=>by simpa using m c q
 have g:¬ 16777216 < n:=by omega
 rcases Nat.eq_zero_or_pos n with h0 | h0
 ·simp [hi,B,C,zeroValue,typeInfo,newRow,newObj,g]
  rw [if_pos h0,f _ (by simp)];rfl
 ·simp [hi,B,C,zeroValue,typeInfo,newRow,newObj,g]
  rw [if_neg (by omega),f _ (by simp)];rfl
def strOf:SV→Bs
 | .v (.string s)=>s.data.toList
 | _=>[]
def rowOf:SV→List Pz
 | .bits l=>l
 | _=>[]
theorem vI {w:World}{cs:Array Value}{e:TypeId}{j:Nat}{v:Value}(h:cs[j]? = some v):(w.alloc (.cells cs e)).cell? ⟨w.heap.size,j,none⟩=some v:=by
 rw [(aZ.new w e cs).cell j];exact h
theorem abg {t e:TypeId}{i:TypeInfo}{z:Value}{n:Nat}{b:Array (Nat × Operand)}(h:o.op=.buildSlice t n b)(m:P.underlying t=some (.slice e))(hi:P.info? e=some i)(r:i.zero=some z)(l:i.size=1)(f:z.cells.size=1)(k:n≤1000)(g:partsOf n b)
  (hv:∀ x ∈ b.toList.map (·.2),E x=.v (.string (aU (strOf (E x))))):iP P w0 Q E o (.strs (b.toList.map fun p=>strOf (E p.2))):=fun a w q u=>by
 have h1:∀ x ∈ b.toList.map (·.2),a.eval x=.string (aU (strOf (E x))):=fun x d=>by
  have:=q x (by rw [h];simpa [Op.operands] using d)
  rw [hv x d] at this;exact this
 unfold Oper.wp execOp;simp only [h,Sem.run_bind,Ga a.eval m hi r l f k g (fun x d=>by rw [h1 x d];rfl) w,Result.andThen_ok,Sem.run_pure]
 refine⟨_,rfl,⟨w.heap.size,by rw [List.length_map,Array.length_toList,g.2],by simp,fun j t c=>?_⟩,(Below.refl _ _).alloc (aiv _) _⟩
 refine vI ?_;rw [List.getElem?_map] at c
 simp only [List.getElem?_toArray,List.getElem?_map];rcases h9:b.toList[j]? with _ | p
 ·rw [h9] at c;cases c
 ·rw [h9] at c
  have:strOf (E p.2)=t:=aiB c
  show some (a.eval p.2)=_
  rw [h1 p.2 (List.mem_map.2 ⟨p,aiy h9,rfl⟩),this]
theorem abf {t e:TypeId}{i:TypeInfo}{z:Value}{n:Nat}{b:Array (Nat × Operand)}(h:o.op=.buildSlice t n b)(C:P.underlying t=some (.slice e))(hi:P.info? e=some i)(F:i.zero=some z)(B:i.size=1)(m:z.cells.size=1)(y:n≤1000)(r:partsOf n b)
  (hv:∀ x ∈ b.toList.map (·.2),E x=.bits (rowOf (E x))):iP P w0 Q E o (.rows (b.toList.map fun p=>rowOf (E p.2))):=fun a w D G=>by
 have h1:∀ x ∈ b.toList.map (·.2),∃ A c,a.eval x=.slice A (rowOf (E x)).length c∧jI w A (rowOf (E x)):=fun x k=>by
  have:=D x (by rw [h];simpa [Op.operands] using k)
  rw [hv x k] at this;exact this
 have d:Below w.heap.size w (w.alloc (.cells ((b.toList.map fun p=>a.eval p.2).toArray) e)):=(Below.refl _ _).alloc (aiv _) _;unfold Oper.wp execOp;simp only [h,Sem.run_bind,Ga a.eval C hi F B m y r (fun x k=>by obtain⟨A,c,g,_⟩:=h1 x k;rw [g];rfl) w,Result.andThen_ok,Sem.run_pure]
 refine⟨_,rfl,⟨w.heap.size,by rw [List.length_map,Array.length_toList,r.2],by simp,fun j l f=>?_⟩,d⟩
 rw [List.getElem?_map] at f
 rcases h9:b.toList[j]? with _ | p
 ·rw [h9] at f;cases f
 ·rw [h9] at f
  have u:rowOf (E p.2)=l:=aiB f;obtain⟨A,c,g,q⟩:=h1 p.2 (List.mem_map.2 ⟨p,aiy h9,rfl⟩);rw [u] at g q
  exact⟨A,c,vI (by simp only [List.getElem?_toArray,List.getElem?_map,h9];show some (a.eval p.2)=_;rw [g]),q.below d⟩
theorem nE {f:FuncId}{xs:Array Operand}{r:Array TypeId}{g:SV}(h:o.op=.call { callee:=.value (.func f),args:=xs,argTypes:=r })(c:∀ args w,(callFunc f args).run P w=.ok (.enter f args) w)
  (l:∀ (i:Operand→Value) (w:World),(∀ x ∈ xs,kJ (E x) (i x) w)→Below w0.heap.size w0 w→Calls P f (xs.map i) w fun e d=>∃ v,e=.returned v∧kJ g v d∧Below w.heap.size w d):iP P w0 Q E o g:=fun a w q k=>by
 have h1:=l a.eval w (fun x m=>q x (by rw [h];simp [Op.operands,Call.operands,m])) k;unfold Oper.wp execOp;simp only [h,resolve,invoke,Act.eval,Deferred.ofValue,Sem.run_bind,Sem.run_pure,Result.andThen_ok];have j:(#[] ++ xs.map a.eval ++ #[]:Array Value)=xs.map a.eval:=by simp
 simp only [j,c];refine Calls.mono h1 fun e d ⟨v,c,n,b⟩=>?_
 subst c;exact⟨v,rfl,n,b⟩
end
end
set_option linter.all false
section
open Go.RowKit Mist
attribute [local go_sem] au aN aV aM aG
def BR (l:List Pz)(w:World)(e:Ending)(w':World):Prop:=∃ v,e=.returned v∧kJ (.bits l) v w'∧Below w.heap.size w w'
def dK (t:Bs):Pz:=tz t (-1)
theorem Hz (w:World):(w.alloc (.cells #[] 69)).ownsRow w.heap.size 69 2 (.slice (some ⟨w.heap.size,0,none⟩) 0 0) 0 (eD []):=by
 have h:=World.ownsRow_made (base:=w.heap.size) (e:=69) (size:=2) w #[] 0 (by simp) (by simp [maxLen]) rfl
 simpa [eD] using h
theorem Iy {c:List Bs}{v:Value}{w:World}(x:c.length≤1000)(h:kJ (.strs c) v w):Calls Tryz.prog 84 #[v] w (BR (c.map dK) w):=by
 obtain⟨b,rfl,y,K⟩:=h;obtain⟨k,g⟩:∃ k,k=c.length:=⟨_,rfl⟩;rw [← g] at x ⊢
 have H:=O g;clear g;have L:=O K;clear K;obtain⟨U,q,B,C,D⟩:=info_parts tY;have J:=O (aF (Below.refl w.heap.size w) (aiv _) (o:=.cells #[] 69));have G:=O (Hz w);go_in
 go_wp2_with fail;go_loopw [3,4] (fun v i wr=>∃ j:Nat,j≤k∧i=.int .i64 j∧Hid (wr.ownsRow w.heap.size 69 2 v j (eD ((c.map dK).take j)))∧Hid (Below w.heap.size w wr)) (fun _ i _=>k - (intOf i).toNat)
 case atStart=>exact⟨0,aix _,rfl,G,J⟩
 case round =>
  obtain⟨j,Z,rfl,f,e⟩:=hrel;clear J G;obtain⟨F,I,rfl⟩:=dh f.o;by_cases d:j < k
  ·have V:decide (j < k)=true:=aiG d;obtain⟨t,A⟩:∃ t,c[j]? = some t:=⟨_,aip (by rw [← H.o];exact d)⟩;have Y:=(e.o.cell (p:=⟨b,j,none⟩) y).trans (L.o j t A);have X:=O (show eD ((c.map dK).take (j+1))=eD ((c.map dK).take j) ++ iY (dK t) by rw [List.take_add_one,List.getElem?_map,A,uX];simp [eD]);have z0:(0:Int)≤(j:Int):=by omega
   have z1:(j:Int) < (k:Int):=by omega
   have S:=e.o.size;clear A;go_wp2_with (at_builtin;refine wpList_append_own _ rfl (.tmp 12) (.tmp 18) 65 rfl w.heap.size 69 U _ 2 24 Tryz.underlying65 q B C D rfl (by decide) _ j (eD ((c.map dK).take j)) rfl (f.o.alloc _) ⟨wr.heap.size,0,none⟩ 1 1 (iY (dK t)) rfl rfl ?c1 ?c2 ?c3 ?c4 ?c5 ?_)
   case c1=>exact h_ wr (iY (dK t)) _
   case c2=>exact fun u T=>rD [dK t] u (by simpa [eD] using T)
   case c3=>simp only [maxLen];omega
   case c4=>omega
   case c5=>simp;omega
   intro v2 W a n _;have m:Below w.heap.size w W:=(e.o.alloc e.o.size _).grown n (by simp;omega) (fun k g=>(f.o.lt k g).1);rw [← X.o] at a
   have N:=O a;clear a;go_wp2;exact⟨⟨j+1,by omega,by go_num,N,O m⟩,by simp [intOf];omega⟩
  ·have V:decide (j < k)=false:=aiH d;have r:j=k:=by omega
   subst r;have l:=O (show c.length=j from H.o.symm);have M:=O (show (c.map dK).take j=c.map dK from aiz (by rw [List.length_map,l.o];exact aiv _));rw [M.o] at f
   go_wp2_with fail;go_ret;exact⟨.slice F j I,rfl,⟨F,I,by rw [List.length_map,l.o],jI.own f.o (by rw [List.length_map,l.o])⟩,e.o⟩
theorem Jt {l:List Pz}(h:0 < l.length)(b:Bool):(eD l).set 1 (.bool b)=eD (aH b l):=by
 cases l with
 | nil=>simp at h
 | cons p r=>rfl
theorem Qm {l:List Pz}{v:Value}{w:World}(N:l.length≤10000000)(h:kJ (.bits l) v w):Calls Tryz.prog 86 #[v] w (BR (aH true l) w):=by
 obtain⟨A,c,rfl,J⟩:=h;obtain⟨k,f⟩:∃ k,k=l.length:=⟨_,rfl⟩;rw [← f] at N ⊢
 have i:=O f;clear f;obtain⟨K,q,r,t,x⟩:=info_parts tY;have I:=O (aF (Below.refl w.heap.size w) (aiv _) (o:=.cells #[] 69));have y:=O (Hz w);have F:=O (show Reads (w.alloc (.cells #[] 69)) w.heap.size 2 A k (eD l) from by rw [i.o];exact J.reads.alloc (aiv _) _);clear J;by_cases g:0 < k
 ·have U:decide (0 < k)=true:=aiG g;go_in
  go_wp2_with (at_builtin;go_loud (refine kH _ rfl (.tmp 4) (.tmp 5) 65 rfl w.heap.size 69 K _ 2 24 Tryz.underlying65 q r t x rfl (by decide) (.slice (some ⟨w.heap.size,0,none⟩) 0 0) 0 (eD []) rfl y.o w.heap.size A k c (eD l) rfl F.o (rD l) (by simp only [maxLen];omega) (by omega) (by simp) ?_;intro L B a d _;rw [Nat.zero_add] at a;have b:B.ownsRow w.heap.size 69 2 L k (eD l):=(by simpa [eD] using a);obtain⟨m,cap,rfl,_⟩:=b.form (by omega);have j:=O b;have C:=O d;obtain⟨V,T⟩:∃ u,B.cell? ⟨m,1,none⟩=some u:=⟨_,(b.cellAt 1 (by omega)).trans (aip (by rw [CK,← i.o];omega))⟩;have f1:=b.frozenAt 1;clear a b d))
  have D:=O (show Below w.heap.size w B from I.o.grown C.o (by simp) (fun k f=>(y.o.lt k (by simpa using f)).1));have G:=(j.o.lt m rfl).1;have S:=j.o.stored 1 (.bool true);go_ret
  refine⟨.slice (some ⟨m,0,none⟩) k cap,rfl,⟨some ⟨m,0,none⟩,cap,by rw [ak,← i.o],jI.own (n:=k) (c:=cap) (base:=w.heap.size) (e:=69) ?_ (by rw [ak,← i.o])⟩,D.o.setCell (p:=⟨m,1,none⟩) G _⟩
  rw [← Jt (by rw [← i.o];exact g)];exact S.1
 ·have U:decide (0 < k)=false:=aiH g;obtain rfl:k=0:=by omega
  have M:=O (show l=[] from List.eq_nil_of_length_eq_zero i.o.symm);rw [M.o] at F ⊢
  go_in
  go_wp2_with (at_builtin;go_loud (refine kH _ rfl (.tmp 4) (.tmp 5) 65 rfl w.heap.size 69 K _ 2 24 Tryz.underlying65 q r t x rfl (by decide) (.slice (some ⟨w.heap.size,0,none⟩) 0 0) 0 (eD []) rfl y.o w.heap.size A 0 c (eD []) rfl F.o (rD []) (by simp only [maxLen];omega) (by omega) (by simp) ?_);intro L B a d _;rw [Nat.zero_add] at a;obtain⟨H,c2,rfl⟩:=dh a;have C:=O d;clear d a)
  go_ret;exact⟨.slice H 0 c2,rfl,⟨H,c2,rfl,⟨fun h=>by simp [aH] at h⟩⟩,I.o.grown C.o (by simp) (fun k f=>(y.o.lt k (by simpa using f)).1)⟩
theorem adZ {ls:List (List Pz)}{v:Value}{w:World}(F:ls.length≤1000)(X:∀ j,((ls.take j).flatten).length≤10000000)(h:kJ (.rows ls) v w):Calls Tryz.prog 87 #[v] w (BR ls.flatten w):=by
 obtain⟨b,rfl,G,W⟩:=h;obtain⟨k,r⟩:∃ k,k=ls.length:=⟨_,rfl⟩;rw [← r] at F ⊢
 have S:=O r;clear r;have Y:=O W;clear W;have Zt:=O X;clear X;obtain⟨i0,C,I,J,K⟩:=info_parts tY;have V:=O (aF (Below.refl w.heap.size w) (aiv _) (o:=.cells #[] 69));have N:=O (Hz w);go_in
 go_wp2_with fail;go_loopw [3,4] (fun v i wr=>∃ j m:Nat,j≤k∧i=.int .i64 j∧m≤10000000∧Hid (m=(ls.take j).flatten.length)∧Hid (wr.ownsRow w.heap.size 69 2 v m (eD (ls.take j).flatten))∧Hid (Below w.heap.size w wr)) (fun _ i _=>k - (intOf i).toNat)
 case atStart=>exact⟨0,0,aix _,rfl,by omega,O rfl,N,V⟩
 case round =>
  obtain⟨j,m,hj,rfl,hm,f,g,e⟩:=hrel;clear V N;obtain⟨t,y,rfl⟩:=dh g.o;by_cases c:j < k
  ·have i3:decide (j < k)=true:=aiG c;obtain⟨l,d⟩:∃ l,ls[j]? = some l:=⟨_,aip (by rw [← S.o];exact c)⟩;obtain⟨M,cj,U,n⟩:=Y.o j l d;have x:=(e.o.cell (p:=⟨b,j,none⟩) G).trans U;have L:=O (show (ls.take (j+1)).flatten=(ls.take j).flatten ++ l by rw [List.take_add_one,d];simp);have h5:=Zt.o (j+1);rw [L.o,aiA,← f.o] at h5
   obtain⟨q,H⟩:∃ q,q=l.length:=⟨_,rfl⟩;rw [← H] at h5 x
   have T:=O H;clear H U d;have u:=O (show Reads wr w.heap.size 2 M q (eD l) from by rw [T.o];exact n.reads.below e.o);have z0:(0:Int)≤(j:Int):=by omega
   have z1:(j:Int) < (k:Int):=by omega
   have hls:=e.o.size;clear n;go_wp2_with (at_builtin;refine kH _ rfl (.tmp 12) (.tmp 16) 65 rfl w.heap.size 69 i0 _ 2 24 Tryz.underlying65 C I J K rfl (by decide) (.slice t m y) m (eD (ls.take j).flatten) rfl g.o w.heap.size M q cj (eD l) rfl u.o (rD l) ?c3 ?c4 ?c5 ?_)
   case c3=>simp only [maxLen];omega
   case c4=>omega
   case c5=>omega
   intro v2 w3 a B _;have A:Below w.heap.size w w3:=e.o.grown B e.o.size (fun k r=>(g.o.lt k r).1);rw [← uX,← L.o] at a
   have MF:=O a;clear a;go_wp2;exact⟨⟨j+1,m+q,by omega,by go_num,h5,O (by rw [L.o,aiA,← f.o,← T.o]),MF,O A⟩,by simp [intOf];omega⟩
  ·have i3:decide (j < k)=false:=aiH c;have D:j=k:=by omega
   subst D;have Z:=O (show ls.take j=ls from aiz (by rw [← S.o];exact aiv _));rw [Z.o] at g f
   go_wp2_with fail;go_ret;exact⟨.slice t m y,rfl,⟨t,y,by rw [f.o],jI.own g.o f.o⟩,e.o⟩
end
