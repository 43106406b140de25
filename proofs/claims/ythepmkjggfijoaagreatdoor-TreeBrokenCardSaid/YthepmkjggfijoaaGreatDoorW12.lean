/-
  A part of the proof.
-/
import Derived.Test.YthepmkjggfijoaaGreatDoorSA
import Derived.Test.YthepmkjggfijoaaGreatDoorS28
import Derived.Test.YthepmkjggfijoaaGreatDoorS30
import Derived.Test.YthepmkjggfijoaaGreatDoorS29
import Derived.Test.YthepmkjggfijoaaGreatDoorS07
import Derived.Test.YthepmkjggfijoaaGreatDoorW02
import Derived.Test.YthepmkjggfijoaaGreatDoorW04
import Derived.Test.YthepmkjggfijoaaGreatDoorW05
set_option linter.all false
set_option maxRecDepth 100000
namespace Mist
def q9 (ns:List Nd):Nat→Int→Prop
 | 0,_=>False
 | b+1,i=>0≤i∧∃ x,ns[i.toNat]? = some x∧∀ k ∈ x.kids,q9 ns b k
theorem q9.app {ns:List Nd}(t:List Nd):∀ {b:Nat} {i:Int},q9 ns b i→q9 (ns ++ t) b i
 | 0,_,h=>h
 | b+1,i,⟨h0,x,hx,hk⟩=>⟨h0,x,by rw [List.getElem?_append_left (aaE.1 hx).1];exact hx,fun k a=>q9.app t (hk k a)⟩
theorem q9.more {ns:List Nd}:∀ {b c:Nat} {i:Int},q9 ns b i→b≤c→q9 ns c i
 | 0,_,_,h,_=>h.elim
 | b+1,0,_,_,hc=>absurd hc (by omega)
 | b+1,c+1,i,⟨h0,x,hx,hk⟩,hc=>⟨h0,x,hx,fun k a=>q9.more (hk k a) (by omega)⟩
def szL (x:Nd):Bool :=
 if x.kind=40 then false
 else if x.kind=41 then decide (x.kids.length≤6)
 else if x.kind=42 then decide ((x.kids.length:Int) - 2≤4) && decide (x.n≤8)
 else if x.kind=33 then within x.n 1 6
 else if x.kind=26 then decide (x.kids.length≤6)
 else if x.kind=46 then !(x.n == 8) || decide (x.kids.length≤4)
 else true
def vX (s s':bC)(c:Nat):Prop:=∃ new,s'.ns=s.ns ++ new∧new.length≤c∧∀ x ∈ new,szL x=true
section
variable {s s1 s2:bC} {c c1 c2:Nat}
theorem vX.same (h:s1.ns=s.ns):vX s s1 0:=⟨[],by rw [h,List.append_nil],aaJ _,fun x a=>by cases a⟩
theorem vX.trans (h:vX s s1 c1)(k:vX s1 s2 c2):vX s s2 (c1+c2):=by
 obtain⟨e,a,i,p1⟩:=h;obtain⟨f,b,j,g⟩:=k;exact⟨e ++ f,by rw [b,a,List.append_assoc],by rw [aaO];omega,fun x d=>(List.mem_append.1 d).elim (p1 x) (g x)⟩
theorem vX.on (h:vX s s1 c)(e:s2.ns=s1.ns):vX s s2 c:=by obtain⟨n,a,l,p⟩:=h;exact⟨n,by rw [e,a],l,p⟩
theorem vX.of (h:vX s1 s2 c)(e:s1.ns=s.ns):vX s s2 c:=by obtain⟨n,a,l,p⟩:=h;exact⟨n,by rw [a,e],l,p⟩
theorem vX.le (h:vX s s1 c)(b:c≤c1):vX s s1 c1:=by obtain⟨n,a,l,p⟩:=h;exact⟨n,a,by omega,p⟩
theorem vX.put (h:vX s s1 c){n:Nd}(b:szL n=true):vX s (s1.put n) (c+1):=by
 obtain⟨new,e,l,p⟩:=h
 exact⟨new ++ [n],by show s1.ns ++ [n]=_;rw [e,List.append_assoc],by rw [aaO];exact Nat.add_le_add_right l 1,fun x a=>by
  rcases List.mem_append.1 a with a | a
  ·exact p x a
  ·rw [List.mem_singleton.1 a];exact b⟩
theorem q9.ad {b:Nat}{i:Int}(h:q9 s.ns b i)(k:vX s s1 c):q9 s1.ns b i:=by
 obtain⟨new,e,_,_⟩:=k;rw [e];exact h.app new
theorem q9.put {n:Nd}{b:Nat}(h:∀ k ∈ n.kids,q9 s.ns b k):q9 (s.put n).ns (b+1) s.id:=by
 refine⟨by unfold bC.id;omega,n,?_,fun k a=>(h k a).app [n]⟩
 show (s.ns ++ [n])[((s.ns.length:Int)).toNat]? = some n
 rw [aaQ,List.getElem?_append_right (aaJ _),Nat.sub_self];rfl
end
structure sU (s:bC) (r:kJ) (b:Nat):Prop where
 ad:vX s r.st r.pc.length
 ht:q9 r.st.ns b r.ix
theorem sU.more {s:bC}{r:kJ}{b c:Nat}(h:sU s r b)(a:b≤c):sU s r c:=⟨h.ad,h.ht.more a⟩
theorem sU.end_ {s s1:bC}{I:bN}{n:Nd}{b c:Nat}(h:vX s s1 c)(a:c+1≤I.length)(d:∀ k ∈ n.kids,q9 s1.ns b k)(e:szL n=true):sU s (bH I s1 n) (b+1):=⟨(h.put e).le a,q9.put d⟩
theorem zF (ay:Bool)(E:bC→kJ):∀ (m:Nat) (r:pz),(bK ay E m r).ix.length=r.ix.length+m
 | 0,r=>rfl
 | m+1,r=>by
  rw [bK];simp only
  split
  ·rw [zF ay E m,aaO];simp only [aaT];omega
  ·rw [zF ay E m,aaO];simp only [aaT];omega
theorem Ag (ay:Bool)(I:bN)(s:bC):I.length+2≤(fK ay I s).length:=by
 unfold fK;split <;> simp [aaO]
theorem M9 (b:Nat)(s:bC):sU s (lF b s) 1:=by
 have d:0+1≤(fI ((b * 7:Nat):Int)).length:=by unfold fI;split <;> simp
 unfold lF;split
 ·exact sU.end_ (b:=0) (.same rfl) d (fun k a=>by cases a) rfl
 split
 ·exact sU.end_ (b:=0) (.same rfl) (by simp) (fun k a=>by cases a) rfl
 ·exact sU.end_ (b:=0) (.same rfl) (by simp) (fun k a=>by cases a) rfl
section
variable (ay:Bool) {E:bC→kJ} {B:Nat} (h:∀ s,sU s (E s) B)
include h
theorem zR (s:bC):∀ (m:Nat) (r:pz),vX s r.st r.pc.length→(∀ k ∈ r.ix,q9 r.st.ns B k)→vX s (bK ay E m r).st (bK ay E m r).pc.length∧(∀ k ∈ (bK ay E m r).ix,q9 (bK ay E m r).st.ns B k)
 | 0,r,ha,hk=>⟨ha,hk⟩
 | m+1,r,ha,hk=>by
  rw [bK];simp only
  split
  ·have h1:=h r.st;refine zR s m _ ?_ ?_
   ·show vX s (E r.st).st (r.pc ++ (E r.st).pc).length
    rw [aaO];exact ha.trans h1.ad
   ·intro k a;rcases List.mem_append.1 a with a | a
    ·exact (hk k a).ad h1.ad
    ·rw [List.mem_singleton.1 a];exact h1.ht
  ·have h1:=h (aX ay r.st);have h2:=h1.ad.of (aF ay r.st);refine zR s m _ ?_ ?_
   ·show vX s (E (aX ay r.st)).st (r.pc ++ (bP [44] :: bN.on _ (E (aX ay r.st)).pc)).length
    rw [aaO,List.length_cons,bL];exact (ha.trans h2).le (by omega)
   ·intro k a;rcases List.mem_append.1 a with a | a
    ·exact (hk k a).ad h2
    ·rw [List.mem_singleton.1 a];exact h1.ht
theorem NC (s:bC):∀ (m:Nat) (r:pz),vX s r.st r.pc.length→(∀ k ∈ r.ix,q9 r.st.ns (B+1) k)→vX s (eD ay E m r).st (eD ay E m r).pc.length∧(∀ k ∈ (eD ay E m r).ix,q9 (eD ay E m r).st.ns (B+1) k)
 | 0,r,ha,b=>⟨ha,b⟩
 | m+1,r,ha,b=>by
  rw [eD];obtain⟨a,e⟩:∃ a,a=if r.ix=[] then r.st else aX ay r.st:=⟨_,rfl⟩
  have f:a.ns=r.st.ns:=by rw [e];split;rfl;exact aF ay r.st
  simp only [← e];have h1:=h a.tl;have h2:vX r.st (E a.tl).st (E a.tl).pc.length:=h1.ad.of f;have h3:=h2.put (n:=⟨25,bA a.nx,0,[(E a.tl).ix],0⟩) rfl;refine NC s m _ ?_ ?_
  ·show vX s ((E a.tl).st.put _) (r.pc ++ _).length
   refine (ha.trans h3).le ?_;rw [aaO];split
   ·simp only [List.length_cons];omega
   ·simp only [List.length_cons];omega
  ·intro k d;rcases List.mem_append.1 d with d | d
   ·exact (b k d).ad h3
   ·rw [List.mem_singleton.1 d];exact q9.put fun k b=>by rw [List.mem_singleton.1 b];exact h1.ht
theorem op_hg (b:Nat)(s:bC):sU s (CW ay E b s) (B+1):=by
 unfold CW;have h1:=h s;have h2:=h (E s).st;split
 ·unfold BN;simp only
  refine sU.end_ (c:=(E s).pc.length) (h1.ad.on (by rw [bV,aF])) ?_ (fun k a=>?_) ?_
  ·refine Nat.le_trans ?_ (Ag ay _ _);rw [List.length_cons,bL];omega
  ·rw [List.mem_singleton.1 a,bV,aF];exact h1.ht
  ·split <;> rfl
 ·unfold Ga;simp only
  have e:(gX ay (aX ay (aX ay (E (E s).st).st))).ns=(E (E s).st).st.ns:=by rw [bV,aF,aF]
  refine sU.end_ (c:=(E s).pc.length+(E (E s).st).pc.length) ((h1.ad.trans h2.ad).on e) ?_ (fun k a=>?_) ?_
  ·refine Nat.le_trans ?_ (Ag ay _ _);rw [aaO,List.length_cons,bL];omega
  ·rw [e];rcases List.mem_cons.1 a with rfl | a
   ·exact h1.ht.ad h2.ad
   ·rw [List.mem_singleton.1 a];exact h2.ht
  ·have d:b % 13 < 13:=Nat.mod_lt _ (by decide)
   generalize b % 13=r at d ⊢
   unfold szL;rw [if_neg (by show ¬ 6+r=40;omega),if_neg (by show ¬ 6+r=41;omega),if_neg (by show ¬ 6+r=42;omega),if_neg (by show ¬ 6+r=33;omega),if_neg (by show ¬ 6+r=26;omega),if_neg (by show ¬ 6+r=46;omega)]
theorem V4 (b:Nat)(s:bC):sU s (eF ay E b s) (B+2):=by
 unfold eF;simp only
 generalize i:s.tl=s'
 have g:s'.ns=s.ns:=by rw [← i];rfl
 generalize bA s.nx=x
 refine (fun (q:sU s' _ (B+2))=>(⟨q.ad.of g,q.ht⟩:sU s _ (B+2))) ?_;have h1:=h s';have h2:=h (E s').st;have h3:=h (E (E s').st).st;have empty:∀ (z:bC),z.ns=s'.ns→vX s' (pz.st ⟨[],[],z⟩) (pz.pc ⟨[],[],z⟩).length∧∀ k ∈ (pz.ix ⟨[],[],z⟩),q9 (pz.st ⟨[],[],z⟩).ns B k:=fun z j=>⟨.same j,fun k a=>by cases a⟩
 split
 ·unfold Va;simp only
  have e:(gX ay (aX ay (aX ay (aX ay (aX ay (aX ay (E (E (E s').st).st).st)))))).ns=(E (E (E s').st).st).st.ns:=by simp only [bV,aF]
  refine sU.more (sU.end_ (b:=B) ((h1.ad.trans (h2.ad.trans h3.ad)).on e) ?_ (fun k a=>?_) rfl) (by omega)
  ·refine Nat.le_trans ?_ (Ag ay _ _);simp only [aaO,List.length_cons,bL];omega
  ·rw [e];rcases List.mem_cons.1 a with rfl | a
   ·exact h1.ht.ad (h2.ad.trans h3.ad)
   rcases List.mem_cons.1 a with rfl | a
   ·exact h2.ht.ad h3.ad
   ·rw [List.mem_singleton.1 a];exact h3.ht
 split
 ·unfold DW;simp only
  have e:(gX ay (aX ay (aX ay (aX ay (aX ay (E (E s').st).st))))).ns=(E (E s').st).st.ns:=by simp only [bV,aF]
  refine sU.more (sU.end_ (b:=B) ((h1.ad.trans h2.ad).on e) ?_ (fun k a=>?_) rfl) (by omega)
  ·refine Nat.le_trans ?_ (Ag ay _ _);simp only [aaO,List.length_cons,bL];omega
  ·rw [e];rcases List.mem_cons.1 a with rfl | a
   ·exact h1.ht.ad h2.ad
   ·rw [List.mem_singleton.1 a];exact h2.ht
 split
 ·unfold xJ;simp only
  obtain⟨d,f⟩:=zR ay h s' (s'.nx % 4) ⟨[],[],s'.tl⟩ (empty s'.tl rfl).1 (empty s'.tl rfl).2;refine sU.more (sU.end_ (b:=B) (d.on (aF ay _)) ?_ (fun k a=>?_) rfl) (by omega)
  ·simp only [aaO,List.length_cons];omega
  ·rw [aF];exact f k a
 split
 ·unfold sI;simp only
  refine sU.more (sU.end_ (b:=B) (h1.ad.on (aF ay _)) ?_ (fun k a=>?_) rfl) (by omega)
  ·simp only [aaO,List.length_cons];omega
  ·rw [List.mem_singleton.1 a,aF];exact h1.ht
 split
 ·unfold sP;simp only
  refine sU.more (sU.end_ (b:=B) ((h1.ad.trans h2.ad).on (aF ay _)) ?_ (fun k a=>?_) rfl) (by omega)
  ·simp only [aaO,List.length_cons];omega
  ·rw [aF];rcases List.mem_cons.1 a with rfl | a
   ·exact h1.ht.ad h2.ad
   ·rw [List.mem_singleton.1 a];exact h2.ht
 split
 ·unfold rQ;simp only
  obtain⟨d,f⟩:=zR ay h s' (1+s'.nx % 4) ⟨[],[],s'.tl⟩ (empty s'.tl rfl).1 (empty s'.tl rfl).2;have l:=zF ay E (1+s'.nx % 4) ⟨[],[],s'.tl⟩;refine sU.more (sU.end_ (b:=B) (d.on (aF ay _)) ?_ (fun k a=>?_) ?_) (by omega)
  ·simp only [aaO,List.length_cons,bL];omega
  ·rw [aF];exact f k a
  ·show decide (_≤6)=true
   rw [decide_eq_true_iff,l]
   show 0+_≤6
   omega
 ·unfold D_;simp only
  obtain⟨d,f⟩:=NC ay h s' (1+b % 3) ⟨[],[],s'⟩ (.same rfl) (fun k a=>by cases a);refine sU.end_ (b:=B+1) (d.on (aF ay _)) ?_ (fun k a=>?_) rfl
  ·simp only [aaO,List.length_cons];omega
  ·rw [aF];exact f k a
end
theorem zD (ay:Bool):∀ (d:Nat) (s:bC),sU s (bB ay d s) (2 * d+1)
 | 0,s=>by
  have h:=M9 (s.nx % 60) s.tl;exact⟨h.ad.of rfl,h.ht⟩
 | d+1,s=>by
  have h:=zD ay d;rw [bB];split
  ·have h:=M9 s.nx s.tl;exact⟨h.ad.of rfl,h.ht.more (by omega)⟩
  split
  ·have h:=op_hg ay h s.nx s.tl;exact⟨h.ad.of rfl,h.ht.more (by omega)⟩
  ·have h:=V4 ay h s.nx s.tl;exact⟨h.ad.of rfl,h.ht.more (by omega)⟩
theorem M7 (ay:Bool):∀ (d:Nat) (s:bC),sU s (bF ay d s) (d+1):=by
 have a:∀ (s:bC) (p:Bs × Nat × Bs) (n:Nd),n.kids=[]→szL n=true→sU s (bH [p] s.tl n) 1:=fun s p n h1 h2 =>
  sU.end_ (b:=0) (.same rfl) (by simp) (fun k e=>by rw [h1] at e;cases e) h2
 intro d
 induction d with
 | zero =>
  intro s;rw [bF];split
  ·exact a _ _ _ rfl rfl
  split
  ·exact a _ _ _ rfl rfl
  ·exact a _ _ _ rfl rfl
 | succ d g =>
  intro s;rw [bF];split
  ·exact (a _ _ _ rfl rfl).more (by omega)
  split
  ·exact (a _ _ _ rfl rfl).more (by omega)
  split
  ·exact (a _ _ _ rfl rfl).more (by omega)
  ·simp only
   have h1:=g s.tl;refine sU.end_ (b:=d+1) ((h1.ad.of (s:=s) rfl).on (by rw [aF];rfl)) ?_ (fun k e=>?_) ?_
   ·simp only [aaO,List.length_cons];omega
   ·rw [List.mem_singleton.1 e,aF];exact h1.ht
   ·have f:(bF ay d s.tl).st.nx % 6 < 6:=Nat.mod_lt _ (by decide)
    generalize (bF ay d s.tl).st.nx % 6=r at f ⊢
    show within ((1+r:Nat):Int) 1 6=true
    unfold within;rw [aaS,decide_eq_true_iff,decide_eq_true_iff];omega
theorem AJ (ay:Bool)(s:bC):∀ (m:Nat) (r:pz),vX s r.st r.pc.length→(∀ k ∈ r.ix,q9 r.st.ns 4 k)→vX s (bE ay m r).st (bE ay m r).pc.length∧(∀ k ∈ (bE ay m r).ix,q9 (bE ay m r).st.ns 4 k)
 | 0,r,ha,b=>⟨ha,b⟩
 | m+1,r,ha,b=>by
  rw [bE];obtain⟨a,f⟩:∃ a,a=if r.ix=[] then r.st else aX ay r.st:=⟨_,rfl⟩
  have g:a.ns=r.st.ns:=by rw [f];split;rfl;exact aF ay r.st
  simp only [← f];have h1:=M7 ay 2 a.tl;have e:(aX ay (bF ay 2 a.tl).st).ns=(bF ay 2 a.tl).st.ns:=aF ay _;have h2:vX r.st (aX ay (bF ay 2 a.tl).st) (bF ay 2 a.tl).pc.length:=(h1.ad.of g).on e;have h3:=h2.put (n:=⟨34,bA a.nx,0,[(bF ay 2 a.tl).ix],0⟩) rfl;refine AJ ay s m _ ?_ ?_
  ·refine (ha.trans h3).le ?_
   show _≤(r.pc ++ _).length
   rw [aaO];split
   ·simp only [List.length_cons,bL];omega
   ·simp only [List.length_cons,bL];omega
  ·intro k d;rcases List.mem_append.1 d with d | d
   ·exact (b k d).ad h3
   ·rw [List.mem_singleton.1 d];exact q9.put fun k b=>by rw [List.mem_singleton.1 b,e];exact h1.ht
theorem AL (ay:Bool):∀ (m:Nat) (r:pz),(bE ay m r).ix.length=r.ix.length+m
 | 0,r=>rfl
 | m+1,r=>by
  rw [bE,AL ay m]
  show (r.ix ++ [_]).length+m=_
  rw [aaO];simp only [aaT];omega
def JY (ns:List Nd)(x:Nd):Prop:=szL x=true∨(x.kind=40∧∃ (a c:Int) (p q:Nd),x.kids=[a,c]∧ns[a.toNat]? = some p∧ns[c.toNat]? = some q∧p.n≤q.n∧q.n≤p.n+11)
theorem JY.app {ns:List Nd}{x:Nd}(t:List Nd)(h:JY ns x):JY (ns ++ t) x:=by
 rcases h with h | ⟨h,a,c,p,q,e,b,d,f⟩
 ·exact .inl h
 ·exact .inr ⟨h,a,c,p,q,e,by rw [List.getElem?_append_left (aaE.1 b).1];exact b,by rw [List.getElem?_append_left (aaE.1 d).1];exact d,f⟩
structure Hi (s:bC) (r:kJ):Prop where
 ad:∃ new,r.st.ns=s.ns ++ new∧new.length≤r.pc.length∧∀ x ∈ new,JY r.st.ns x
 ht:q9 r.st.ns 11 r.ix
theorem Hi.of {s:bC}{r:kJ}{b:Nat}(h:sU s r b)(a:b≤11):Hi s r:=by
 obtain⟨new,e,l,p⟩:=h.ad;exact⟨⟨new,e,l,fun x d=>.inl (p x d)⟩,h.ht.more a⟩
theorem Ob (ay:Bool)(x:Bs)(s:bC):Hi s (oG ay x s):=by
 unfold oG;simp only
 obtain⟨low,f⟩:∃ low:Int,low=((s.nx % 30:Nat):Int) - 15:=⟨_,rfl⟩;rw [← f];have w:∀ n,(bX n s.tl).st=s.tl.put ⟨1,[],n,[],0⟩:=fun n=>rfl
 obtain⟨k,d⟩:∃ k,k=(bX low s.tl).st.nx % 12:=⟨_,rfl⟩;have t:k < 12:=by rw [d];exact Nat.mod_lt _ (by decide)
 rw [← d];obtain⟨s1,g⟩:∃ s1,s1=(bX (low+(k:Int)) (bX low s.tl).st.tl).st:=⟨_,rfl⟩;have a:s1.ns=s.ns ++ [⟨1,[],low,[],0⟩] ++ [⟨1,[],low+(k:Int),[],0⟩]:=by rw [g];rfl
 rw [← g];have e:(aX ay (aX ay (aX ay s1))).ns=s1.ns:=by rw [aF,aF,aF]
 have u:(bX low s.tl).ix=(s.ns.length:Int):=rfl
 have v:(bX (low+(k:Int)) (bX low s.tl).st.tl).ix=((s.ns.length+1:Nat):Int):=by
  show (((s.ns ++ [_]).length:Nat):Int)=_
  rw [aaO];rfl
 have l:s1.ns[s.ns.length]? = some ⟨1,[],low,[],0⟩:=by
  rw [a,List.append_assoc,List.getElem?_append_right (aaJ _),Nat.sub_self];rfl
 have m:s1.ns[s.ns.length+1]? = some ⟨1,[],low+(k:Int),[],0⟩:=by
  rw [a,List.append_assoc,List.getElem?_append_right (by omega),show s.ns.length+1 - s.ns.length=1 by omega];rfl
 rw [u,v]
 refine⟨⟨[⟨1,[],low,[],0⟩,⟨1,[],low+(k:Int),[],0⟩,⟨40,x,0,[(s.ns.length:Int),((s.ns.length+1:Nat):Int)],0⟩],?_,?_,?_⟩,?_⟩
 ·show (aX ay (aX ay (aX ay s1))).ns ++ [_]=_
  rw [e,a];simp only [List.append_assoc,List.cons_append,List.nil_append]
 ·show 3≤_
  unfold bH;simp only [List.length_cons,aaO,bL];omega
 ·intro y hy;rcases List.mem_cons.1 hy with rfl | hy
  ·exact .inl rfl
  rcases List.mem_cons.1 hy with rfl | hy
  ·exact .inl rfl
  rw [List.mem_singleton.1 hy];exact JY.app _ (.inr ⟨rfl,(s.ns.length:Int),((s.ns.length+1:Nat):Int),⟨1,[],low,[],0⟩,⟨1,[],low+(k:Int),[],0⟩,rfl,by rw [e,aaQ];exact l,by rw [e,aaQ];exact m,by show low≤low+(k:Int);omega,by show low+(k:Int)≤low+11;omega⟩)
 ·refine q9.more (q9.put (b:=1) (s:=aX ay (aX ay (aX ay s1))) fun j i=>?_) (by omega);rw [e];rcases List.mem_cons.1 i with rfl | i
  ·exact⟨by omega,_,by rw [aaQ];exact l,fun k d=>by cases d⟩
  ·rw [List.mem_singleton.1 i];exact⟨by omega,_,by rw [aaQ];exact m,fun k d=>by cases d⟩
theorem Wy (ay:Bool)(s:bC):Hi s (bZ ay s):=by
 unfold bZ;simp only
 generalize A:s.tl.tl=a
 have v:a.ns=s.ns:=by rw [← A];rfl
 generalize bA s.tl.nx=x
 refine (fun (q:Hi a _)=>(⟨by rw [← v];exact q.ad,q.ht⟩:Hi s _)) ?_;split
 ·exact Ob ay x a
 split
 ·unfold Ah;simp only
  obtain⟨j,l⟩:=AJ ay a (1+a.nx % 6) ⟨[],[],a.tl⟩ (.same rfl) (fun k d=>by cases d);have i:=AL ay (1+a.nx % 6) ⟨[],[],a.tl⟩;refine Hi.of (sU.end_ (b:=4) j ?_ l ?_) (by omega)
  ·simp only [aaO,List.length_cons];omega
  ·show decide (_≤6)=true
   rw [decide_eq_true_iff,i]
   show 0+_≤6
   omega
 split
 ·unfold BG;simp only
  obtain⟨j,l⟩:=AJ ay a (a.nx % 5) ⟨[],[],a.tl⟩ (.same rfl) (fun k d=>by cases d);have i:=AL ay (a.nx % 5) ⟨[],[],a.tl⟩;have i:(bE ay (a.nx % 5) ⟨[],[],a.tl⟩).ix.length≤4:=by rw [i];show 0+_≤4;omega
  generalize bE ay (a.nx % 5) ⟨[],[],a.tl⟩=r at j l i ⊢
  have h1:=M7 ay 2 r.st
  generalize bF ay 2 r.st=t at h1 ⊢
  have C:pO t.st≤8:=by unfold pO;split <;> omega
  generalize pO t.st=n at C ⊢
  obtain⟨s1,f⟩:∃ s1,s1=if 0 < n then aX ay t.st.tl else t.st.tl:=⟨_,rfl⟩
  have u:s1.ns=t.st.ns:=by rw [f];split;(rw [aF];rfl);rfl
  rw [← f];have h2:=zD ay 4 s1
  generalize bB ay 4 s1=b at h2 ⊢
  have g:vX t.st b.st b.pc.length:=h2.ad.of u;have e:(aX ay (aX ay (aX ay b.st))).ns=b.st.ns:=by simp only [aF]
  refine Hi.of (sU.end_ (b:=9) ((j.trans (h1.ad.trans g)).on e) ?_ (fun k d=>?_) ?_) (by omega)
  ·simp only [aaO,List.length_cons];omega
  ·rw [e];rcases List.mem_append.1 d with d | d
   ·exact ((l k d).ad (h1.ad.trans g)).more (by omega)
   rcases List.mem_cons.1 d with rfl | d
   ·exact (h1.ht.ad g).more (by omega)
   ·rw [List.mem_singleton.1 d];exact h2.ht
  ·show (decide ((((r.ix ++ [t.ix,b.ix]).length:Nat):Int) - 2≤4) && decide ((n:Int)≤8))=true
   rw [aaS,decide_eq_true_iff,decide_eq_true_iff,aaO]
   show (((r.ix.length+2:Nat):Int) - 2≤4)∧_
   omega
 split
 ·unfold mM;simp only
  have h1:=zD ay 4 a;refine Hi.of (sU.end_ (b:=9) (h1.ad.on (aF ay _)) ?_ (fun k d=>?_) rfl) (by omega)
  ·simp only [List.length_cons,bL];omega
  ·rw [List.mem_singleton.1 d,aF];exact h1.ht
 split
 ·unfold ng;simp only
  have h1:=zD ay 4 a;refine Hi.of (sU.end_ (b:=9) (h1.ad.on (aF ay _)) ?_ (fun k d=>?_) rfl) (by omega)
  ·simp only [List.length_cons];omega
  ·rw [List.mem_singleton.1 d,aF];exact h1.ht
 split
 ·unfold oP;exact Hi.of (sU.end_ (b:=0) (vX.same (aF ay a)) (by simp) (fun k d=>by cases d) rfl) (by omega)
 ·unfold qz;simp only
  have y:1+a.nx % 8≤8:=by omega
  generalize 1+a.nx % 8=q at y ⊢
  obtain⟨m,w⟩:∃ m,m=if q=7 then 0 else if q=8 then 1+a.tl.nx % 4 else 1:=⟨_,rfl⟩
  have D:m≤4:=by rw [w];split;omega;split <;> omega
  obtain⟨s1,f⟩:∃ s1,s1=if q=8 then a.tl.tl else a.tl:=⟨_,rfl⟩
  have u:s1.ns=a.ns:=by rw [f];split <;> rfl
  rw [← w,← f];obtain⟨j,l⟩:=zR ay (zD ay 3) a m ⟨[],[],s1⟩ (.same u) (fun k d=>by cases d);have i:=zF ay (bB ay 3) m ⟨[],[],s1⟩;refine Hi.of (sU.end_ (b:=7) (j.on (aF ay _)) ?_ (fun k d=>?_) ?_) (by omega)
  ·simp only [List.length_cons,bL];omega
  ·rw [aF];exact l k d
  ·show (!(((q:Nat):Int) == 8) || decide (_≤4))=true
   rw [Bool.or_eq_true,decide_eq_true_iff,i];right
   show 0+m≤4
   omega
theorem MN (ay:Bool):∀ (m:Nat) (r:pz),(r.st.ns.length≤r.pc.length∧(∀ x ∈ r.st.ns,JY r.st.ns x)∧∀ k ∈ r.ix,q9 r.st.ns 11 k) →
  (jR ay m r).st.ns.length≤(jR ay m r).pc.length∧(∀ x ∈ (jR ay m r).st.ns,JY (jR ay m r).st.ns x)∧∀ k ∈ (jR ay m r).ix,q9 (jR ay m r).st.ns 11 k
 | 0,r,h=>h
 | m+1,r,⟨h1,h2,h3⟩=>by
  rw [jR];split
  ·exact⟨h1,h2,h3⟩
  simp only
  obtain⟨⟨new,e,l,p⟩,f⟩:=Wy ay r.st;have d:(dM ay r.st).st.ns=(bZ ay r.st).st.ns:=aF ay _;have g:(dM ay r.st).pc.length=(bZ ay r.st).pc.length+1:=aaO;refine MN ay m _ ⟨?_,?_,?_⟩
  ·show (dM ay r.st).st.ns.length≤(r.pc ++ _).length
   rw [d,e,aaO,aaO];split
   ·omega
   ·rw [bL];omega
  ·show ∀ x ∈ (dM ay r.st).st.ns,JY (dM ay r.st).st.ns x
   rw [d];intro x a;rw [e] at a
   rcases List.mem_append.1 a with a | a
   ·rw [e];exact (h2 x a).app new
   ·exact p x a
  ·show ∀ k ∈ r.ix ++ [(dM ay r.st).ix],q9 (dM ay r.st).st.ns 11 k
   rw [d];intro k b;rcases List.mem_append.1 b with b | b
   ·rw [e];exact (h3 k b).app new
   ·rw [List.mem_singleton.1 b];exact f
structure GOk (ay:Bool) (b:Bs):Prop where
 few:(jy ay b).nodes.length≤(grown ay b).pc.length
 sz:∀ x ∈ (jy ay b).nodes,JY (jy ay b).nodes x
 ht:∀ k ∈ (jy ay b).items,q9 (jy ay b).nodes 11 k
theorem IK (ay:Bool)(b:Bs):GOk ay b:=by
 obtain⟨h1,h2,h3⟩:=MN ay 12 ⟨[],[],⟨b,[]⟩⟩ ⟨aaJ _,fun x d=>(nomatch d),fun k a=>(nomatch a)⟩;exact⟨h1,h2,h3⟩
theorem JY.sized {T:Tr}{x:Nd}(h:JY T.nodes x):Mist.sized T x=true:=by
 rcases h with h | ⟨h,a,c,p,q,e,b,d,j,k⟩
 ·unfold szL at h
  unfold Mist.sized;split at h
  ·cases h
  rename_i i
  rw [if_neg i];exact h
 ·unfold Mist.sized;rw [if_pos h,e];have f:(nd T a.toNat)=p:=by unfold nd;rw [aaH,b];rfl
  have g:(nd T c.toNat)=q:=by unfold nd;rw [aaH,d];rfl
  show within ((nd T c.toNat).n - (nd T a.toNat).n+1) 1 12=true
  rw [f,g];unfold within;rw [aaS,decide_eq_true_iff,decide_eq_true_iff];omega
theorem JY.strip {ns:List Nd}{x:Nd}(h:JY (ns.map strip) (strip x)):JY ns x:=by
 rcases h with h | ⟨h,a,c,p,q,e,b,d,f⟩
 ·exact .inl h
 ·rw [List.getElem?_map] at b d
  obtain⟨j,g,rfl⟩:=Option.map_eq_some_iff.1 b;obtain⟨k,i,rfl⟩:=Option.map_eq_some_iff.1 d;exact .inr ⟨h,a,c,j,k,e,g,i,f⟩
theorem q9.strip {ns:List Nd}:∀ {b:Nat} {i:Int},q9 (ns.map strip) b i→q9 ns b i
 | 0,_,h=>h
 | b+1,i,⟨h0,x,hx,hk⟩=>by
  rw [List.getElem?_map] at hx
  obtain⟨y,f,rfl⟩:=Option.map_eq_some_iff.1 hx;exact⟨h0,y,f,fun k a=>q9.strip (hk k a)⟩
end Mist
namespace Mist
structure Vq (ns0:List Nd) (p:Nat × Bool→Bool) (qs:List Int) (ns:List Nd):Prop where
 ok:jN ns
 wf:Wf ns
 more:∃ t,ns=ns0 ++ t
 fo:Fo ns ns0.length ns.length qs
 all:∀ a ∈ qs,p (dB ns a)=true
section
variable {ns0 ns ns':List Nd} {p q r:Nat × Bool→Bool} {qs bs:List Int}
theorem Vq.nil (b:jN ns)(d:Wf ns):Vq ns p [] ns:=⟨b,d,⟨[],by simp⟩,.nil _,fun a h=>nomatch h⟩
theorem Vq.put {n:Nd}(g:Vq ns0 p n.kids ns)(f:uP ns n)(i:q (n.kind,decide (n.n < 0))=true):Vq ns0 q [(ns.length:Int)] (ns ++ [n]):=by
 have b:Ids n.kids ns.length:=fun c d=>by have:=g.fo.ids c d;omega
 have e:(ns ++ [n])[ns.length]? = some n:=by simp
 obtain⟨t,j⟩:=g.more
 refine⟨g.ok.add g.wf f b,g.wf.add b,⟨t ++ [n],by rw [j,List.append_assoc]⟩,?_,fun a h=>?_⟩
 ·rw [aaO,aaT];exact Fo.one (g.fo.mono _) e
 ·rw [List.mem_singleton.1 h];unfold dB
  simpa [aaH] using i
end
theorem Vq.end_ {s s1:bC}{I:bN}{n:Nd}{p q:Nat × Bool→Bool}{ns:List Nd}(g:Vq s.ns p n.kids ns)(e:s1.ns=ns)(a:uP ns n)(b:q (n.kind,decide (n.n < 0))=true):Vq s.ns q [(bH I s1 n).ix] (bH I s1 n).st.ns:=by
 subst e;exact g.put a b
section
variable (ay:Bool) {E:bC→kJ} (h:∀ s:bC,jN s.ns→Wf s.ns→Vq s.ns pE [(E s).ix] (E s).st.ns)
include h
end
def p1 (q:Nat × Bool):Bool:=q.1 == 1
end Mist
namespace Mist
theorem Kt {n:Nd}:∀ (qs:List (Nat × Bool)) (i:Nat),oJ n i qs=true→∀ j q,qs[j]? = some q→ru n (i+j) q=true
 | [],_,_,j,q,h=>by simp at h
 | a :: r,i,hk,0,q,h=>by
  obtain rfl:a=q:=by simpa using h
  rw [oJ,aaS] at hk
  exact hk.1
 | a :: r,i,hk,j+1,q,h=>by
  rw [oJ,aaS] at hk
  have:=Kt r (i+1) hk.2 j q (by simpa using h)
  rwa [show i+1+j=i+(j+1) by omega] at this
theorem Pn {T:Tr}{i:Nat}{x:Nd}(d:T.nodes[i]? = some x)(h:uP T.nodes x):je T i=true:=by
 have e:=kH d;unfold uP okB at h
 simp only [aaS] at h
 obtain⟨⟨⟨⟨⟨⟨h1,h2⟩,h3⟩,h4⟩,h5⟩,h6⟩,h7⟩:=h;unfold je;rw [e];simp only [aaS]
 refine⟨⟨⟨⟨⟨⟨h1,h2⟩,h3⟩,h4⟩,h5⟩,h6⟩,?_⟩
 rw [aaR];intro j a;rw [List.mem_range] at a
 have b:(x.kids.map (dB T.nodes))[j]? = some (dB T.nodes (x.kids.getD j 0)):=by
  rw [List.getElem?_map,aaD a,aaH,aaD a];rfl
 have:=Kt _ 0 h7 j _ b
 rw [Nat.zero_add] at this
 unfold ru dB at this
 exact this
theorem Xv {T:Tr}(h:∀ a ∈ T.items,pI (dB T.nodes a)=true):∀ c ∈ T.items,eP (nd T c.toNat).kind=true:=h
theorem MO {T:Tr}(b:jN T.nodes)(hF:Fo T.nodes 0 T.nodes.length T.items)(d:∀ a ∈ T.items,pI (dB T.nodes a)=true):kE T=true :=
 (rR T).2 ⟨⟨hF,Xv d⟩,fun _ hi=>Pn (Cw hi) (b _ _ (Cw hi))⟩
end Mist
namespace Go.Proofs.YthepmkjggfijoaaGreatDoor
open Go.RowKit Mist
theorem Sb {K:Nat}(h:Mist.known K=true):K < 256:=by
 by_cases a:K < 256
 ·exact a
 ·exfalso
  unfold Mist.known lq iH eP at h
  simp at h
  omega
theorem nP {a lo hi:Int}(h:within a lo hi=true):lo≤a∧a≤hi:=by simpa [within] using h
theorem Sv {T:Tr}(v:jN T.nodes)(w:Wf T.nodes)(hS:∀ x ∈ T.nodes,Mist.sized T x=true)(C:T.nodes.length≤1000):xO T.nodes:=by
 intro x n;obtain⟨i,A,l⟩:=List.getElem_of_mem n;have g:T.nodes[i]? = some x:=by rw [← l];exact aaD A
 have d:=v i x g;unfold uP okB at d
 simp only [aaS] at d
 obtain⟨⟨⟨⟨⟨⟨h1,h2⟩,h3⟩,h4⟩,h5⟩,h6⟩,h7⟩:=d;have f:=hS x n
 refine⟨Sb (by unfold Mist.known;exact h1),?_,?_,?_,?_⟩
 ·by_cases m:ig x.kind=true
  ·rw [m] at h2
   have h2:isName x.text=true:=(eq_of_beq h2).symm;unfold isName at h2
   have:=(Ct x.text (by rw [eq_of_beq h2];decide)).1
   omega
  ·have h3:x.text.isEmpty=true:=by simpa [m] using h3
   have:x.text=[]:=List.isEmpty_iff.1 h3
   rw [this];simp
 ·by_cases t:x.kind=1
  ·have:=nP (by simpa [gu,t] using h5:within x.n (-9999) 9999=true);unfold jq gq;omega
  by_cases u:x.kind=2
  ·have:=nP (by simpa [gu,u] using h5:within x.n 0 1=true);unfold jq gq;omega
  by_cases e:x.kind=42
  ·have a:0≤x.n:=by simpa [gu,e] using h5
   have b:x.n≤8:=by
    unfold Mist.sized at f
    simp [e] at f
    exact f.2
   unfold jq gq;omega
  by_cases j:x.kind=33
  ·have:=nP (by unfold Mist.sized at f;simpa [j] using f:within x.n 1 6=true);unfold jq gq;omega
  by_cases k:x.kind=46
  ·have:=nP (by simpa [gu,k] using h5:within x.n 1 8=true);unfold jq gq;omega
  ·have:x.n=0:=by simpa [gu,t,u,e,j,k] using h5
   unfold jq gq;omega
 ·have:=nP h6;unfold jq gq;omega
 ·intro c y
  have:=w i x g c y
  unfold jq gq;omega
theorem W_ {T:Tr}(h:¬ 0≤outT T):∀ x ∈ T.nodes,Mist.sized T x=true:=by
 have h2:=Io T;rw [aaV h] at h2
 have h3:T.nodes.all (Mist.sized T)=true:=by simpa using h2.symm
 exact aaR.1 h3
theorem MK {T:Tr}(h:(iy T).2=0):Mist.large T=false∧¬ 30 < om T∧¬ 0≤outT T:=by
 unfold iy at h
 split at h
 ·cases h
 ·rename_i h1
  split at h
  ·cases h
  ·rename_i h2
   exact⟨by simpa using fun h=>h1 (.inl h),fun h=>h1 (.inr h),h2⟩
theorem ML {T:Tr}(d:jN T.nodes)(t:Wf T.nodes)(hF:Fo T.nodes 0 T.nodes.length T.items)(m:∀ a ∈ T.items,pI (dB T.nodes a)=true)(l:(iy T).2=0):dN T=0∧xO T.nodes:=by
 obtain⟨b,hd,g⟩:=MK l
 have f:T.nodes.length≤800:=by
  have:¬ 800 < T.nodes.length:=fun h=>by unfold Mist.large at b;rw [aaU h] at b;simp at b
  omega
 have e:=Sv d t (W_ g) (by omega);obtain⟨i,j,k⟩:=(Ce T (fun n u=>(e n u).num) (by omega)).2 (MO d hF m)
 refine⟨?_,e⟩
 unfold dN;rw [if_neg (by rw [b];decide),if_neg (by rw [i];decide),if_neg (by rw [j,k];simp),if_neg hd,if_neg g]
theorem KH (i:Int):∀ (ks P:List Int) (j:Nat),(∀ k ∈ ks,0≤k∧k < (P.length:Int))→(um i ks P).getD j 0=if (j:Int) ∈ ks then i else P.getD j 0
 | [],P,j,_=>by simp [um]
 | k :: r,P,j,h=>by
  rw [um,KH i r _ j (fun x a=>by rw [List.length_set];exact h x (List.mem_cons_of_mem _ a)),lU];have h0:=h k (List.mem_cons_self ..);by_cases h1:(j:Int) ∈ r
  ·rw [if_pos h1,if_pos (List.mem_cons_of_mem _ h1)]
  ·rw [if_neg h1];by_cases h2:k.toNat=j
   ·rw [if_pos ⟨h2,by omega⟩,if_pos (by rw [show (j:Int)=k by omega];exact List.mem_cons_self ..)]
   ·rw [if_neg (fun h=>h2 h.1),if_neg];intro h3;rcases List.mem_cons.1 h3 with h4 | h4
    ·omega
    ·exact h1 h4
theorem Cz {ns:List Nd}(d:Wf ns):∀ k,k≤ns.length→∀ j,j < k→((wH ns k).getD j 0=-1∧∀ m x,m < k→ns[m]? = some x→(j:Int) ∉ x.kids)∨∃ m x,m < k∧ns[m]? = some x∧(j:Int) ∈ x.kids∧(wH ns k).getD j 0=(m:Int)
 | 0,_,j,hj=>by omega
 | k+1,hk,j,hj=>by
  obtain⟨x,b⟩:∃ x,ns[k]? = some x:=⟨_,aaD (by omega)⟩;have f:=d k x b
  have e:(wH ns (k+1)).getD j 0=if (j:Int) ∈ x.kids then (k:Int) else ((wH ns k).set k (-1)).getD j 0:=by
   rw [wH,KJ,b];exact KH _ _ _ _ (fun c a=>by rw [List.length_set,qI];have:=f c a;omega)
  rw [e];by_cases h1:(j:Int) ∈ x.kids
  ·rw [if_pos h1];exact .inr ⟨k,x,by omega,b,h1,rfl⟩
  ·rw [if_neg h1,lU];by_cases h2:k=j
   ·subst h2;rw [if_pos ⟨rfl,by rw [qI];omega⟩];refine .inl ⟨rfl,fun m y g hy a=>?_⟩
    have:=d m y hy _ a
    omega
   ·rw [if_neg (fun h=>h2 h.1)];rcases Cz d k (by omega) j (by omega) with ⟨h3,h4⟩ | ⟨m,y,h3,h4,h5,h6⟩
    ·refine .inl ⟨h3,fun m y g hy a=>?_⟩;rcases Nat.lt_or_ge m k with h7 | h7
     ·exact h4 m y h7 hy a
     ·obtain rfl:m=k:=by omega
      rw [b] at hy;cases hy
      exact h1 a
    ·exact .inr ⟨m,y,by omega,h4,h5,h6⟩
theorem Ef {ns:List Nd}{qs:List Int}(d:Wf ns)(f:Fo ns 0 ns.length qs){j m:Nat}{x:Nd}(a:ns[m]? = some x)(b:(j:Int) ∈ x.kids):(cZ ns).getD j 0=(m:Int):=by
 have e:=(aaE.1 a).1;have g:=d m x a _ b;rcases Cz d ns.length (aaJ _) j (by omega) with ⟨_,h4⟩ | ⟨i,y,h3,h4,h5,h6⟩
 ·exact absurd b (h4 m x e a)
 ·rw [Fo.Ae f e h3 a h4 b h5];exact h6
theorem MZ {ns:List Nd}(a:Wf ns){j m:Nat}(b:j < ns.length)(h:(cZ ns).getD j 0=(m:Int)):∃ x,ns[m]? = some x∧(j:Int) ∈ x.kids:=by
 rcases Cz a ns.length (aaJ _) j b with ⟨h3,_⟩ | ⟨d,y,h3,h4,h5,h6⟩
 ·unfold cZ at h;omega
 ·have:d=m:=by unfold cZ at h;omega
  subst this;exact⟨y,h4,h5⟩
theorem UC {ns:List Nd}{qs:List Int}(d:Wf ns)(a:Fo ns 0 ns.length qs){r:Nat}(b:(r:Int) ∈ qs):(cZ ns).getD r 0=-1:=by
 have f:=a.ids _ b;rcases Cz d ns.length (aaJ _) r (by omega) with ⟨h3,_⟩ | ⟨e,y,h3,h4,h5,h6⟩
 ·exact h3
 ·exact absurd b (a.apart e y (aaL _) h3 h4 _ h5)
theorem Qb {P:List Int}(a:xH P):∀ (f n:Nat),n < P.length→P.length≤n+f→zJ P (f+1) (n:Int)=zJ P f (n:Int)
 | 0,n,h1,h2=>by omega
 | f+1,n,h1,h2=>by
  rw [tC (f:=f+1) (n:=n),tC (f:=f) (n:=n)]
  congr 1
  rcases a n h1 with h | ⟨h3,h4⟩
  ·rw [h,Dn,Dn]
  ·obtain⟨m,b⟩:∃ m:Nat,P.getD n 0=(m:Int):=⟨(P.getD n 0).toNat,by omega⟩;rw [b];exact Qb a f m (by omega) (by omega)
def AZ (P:List Int)(n:Nat):List Nat:=zJ P (P.length+1) (n:Int)
theorem Dp {P:List Int}{n:Nat}(h:P.getD n 0=-1):AZ P n=[n]:=by
 unfold AZ;rw [tC,h,Dn]
theorem FQ {P:List Int}(a:xH P){n m:Nat}(h:P.getD n 0=(m:Int))(b:m < P.length):AZ P n=n :: AZ P m:=by
 unfold AZ;rw [tC (f:=P.length) (n:=n),h,Qb a P.length m b (by omega)]
theorem UQ {P:List Int}{n:Nat}:0 < (AZ P n).length:=by
 unfold AZ;rw [tC];simp
theorem J_ (v:Nat):∀ (ks:List Int) (D:List Nat) (j:Nat),(∀ k ∈ ks,0≤k∧k < (D.length:Int))→(tV v ks D).getD j 0=if (j:Int) ∈ ks then v+1 else D.getD j 0
 | [],D,j,_=>by simp [tV]
 | k :: r,D,j,h=>by
  rw [tV,J_ v r _ j (fun x a=>by rw [List.length_set];exact h x (List.mem_cons_of_mem _ a)),qD];have h0:=h k (List.mem_cons_self ..);by_cases h1:(j:Int) ∈ r
  ·rw [if_pos h1,if_pos (List.mem_cons_of_mem _ h1)]
  ·rw [if_neg h1];by_cases h2:k.toNat=j
   ·rw [if_pos ⟨h2,by omega⟩,if_pos (by rw [show (j:Int)=k by omega];exact List.mem_cons_self ..)]
   ·rw [if_neg (fun h=>h2 h.1),if_neg];intro h3;rcases List.mem_cons.1 h3 with h4 | h4
    ·omega
    ·exact h1 h4
def Vf (ns:List Nd)(k:Nat)(D:List Nat):Prop:=D.length=ns.length∧∀ j,j < ns.length→D.getD j 0=if k≤j∨(k:Int)≤(cZ ns).getD j 0 then (AZ (cZ ns) j).length else 0
theorem Vn {ns:List Nd}{qs:List Int}(f:Wf ns)(v:Fo ns 0 ns.length qs){i:Nat}{D:List Nat}(hi:i < ns.length)(h:Vf ns (i+1) D):Vf ns i (qy ns i D):=by
 obtain⟨t,m⟩:=nL f;obtain⟨x,g⟩:∃ x,ns[i]? = some x:=⟨_,aaD hi⟩;have k:=f i x g
 have b:∀ j,j < ns.length→(nD i D).getD j 0=if j=i then (AZ (cZ ns) i).length else D.getD j 0:=by
  intro j d;have a:=h.2 i hi;have l:=t i (by rw [m];exact hi);unfold nD;rcases l with h1 | ⟨h1,_⟩
  ·rw [if_neg (by omega)] at a
   rw [if_pos a,qD,Dp h1];by_cases h2:j=i
   ·rw [if_pos ⟨h2.symm,by rw [h.1];exact d⟩,if_pos h2];rfl
   ·rw [if_neg (fun h3=>h2 h3.1.symm),if_neg h2]
  ·rw [if_pos (by omega)] at a
   have:=UQ (P:=cZ ns) (n:=i)
   rw [if_neg (by omega)];by_cases h2:j=i
   ·subst h2;rw [if_pos rfl,a]
   ·rw [if_neg h2]
 refine⟨by rw [Ke];exact h.1,fun j d=>?_⟩
 have e:(qy ns i D).getD j 0=if (j:Int) ∈ x.kids then (nD i D).getD i 0+1 else (nD i D).getD j 0:=by
  unfold qy;rw [g];exact J_ _ _ _ _ (fun c u=>by rw [xV,h.1];have:=k c u;omega)
 rw [e];by_cases h1:(j:Int) ∈ x.kids
 ·have l:=Ef f v g h1;rw [if_pos h1,if_pos (.inr (by omega)),b i hi,if_pos rfl,FQ t l (by rw [m];exact hi)];rfl
 ·rw [if_neg h1,b j d];by_cases h2:j=i
  ·subst h2;rw [if_pos rfl,if_pos (.inl (aaJ _))]
  ·rw [if_neg h2,h.2 j d]
   have h3:(cZ ns).getD j 0 ≠ (i:Int):=fun h9=>by
    obtain⟨y,hy,w⟩:=MZ f d h9;rw [g] at hy;cases hy
    exact h1 w
   by_cases h4:i+1≤j∨((i+1:Nat):Int)≤(cZ ns).getD j 0
   ·rw [if_pos h4,if_pos (by omega)]
   ·rw [if_neg h4,if_neg (by omega)]
theorem NR {ns:List Nd}{qs:List Int}(a:Wf ns)(b:Fo ns 0 ns.length qs):∀ (k:Nat) (D:List Nat),k≤ns.length→Vf ns k D→Vf ns 0 (Rq ns k D)
 | 0,_,_,h=>h
 | k+1,D,hk,h=>NR a b k _ (by omega) (Vn a b (by omega) h)
theorem Kl {ns:List Nd}{qs:List Int}(b:Wf ns)(f:Fo ns 0 ns.length qs){j:Nat}(g:j < ns.length):(f_ ns).getD j 0=(AZ (cZ ns) j).length:=by
 obtain⟨e,a⟩:=nL b
 have h:=(NR b f ns.length (List.replicate ns.length 0) (aaJ _) ⟨by simp,fun i d=>by
  have k:=e i (by rw [a];exact d);rw [a] at k
  rw [if_neg (by omega),aaH,List.getElem?_replicate];simp [d]⟩).2 j g
 rw [if_pos (.inl (aaL _))] at h
 exact h
inductive Up (ns:List Nd):Nat→Nat→Prop
 | refl (i:Nat):Up ns i i
 | step {i j r:Nat} {x:Nd} (e:ns[j]? = some x) (h:(i:Int) ∈ x.kids) (k:Up ns j r):Up ns i r
theorem Up.more {ns:List Nd}{i r b:Nat}{n:Nd}(h:Up ns i r)(e:ns[b]? = some n)(k:(r:Int) ∈ n.kids):Up ns i b:=by
 induction h with
 | refl=>exact .step e k (.refl _)
 | step a d _ f=>exact .step a d (f k)
theorem fo_up {ns:List Nd}{a b:Nat}{qs:List Int}(h:Fo ns a b qs):∀ i,a≤i→i < b→∃ (q r:Nat),qs[q]? = some (r:Int)∧i≤r∧(∀ (g:Nat) c,g < q→qs[g]? = some c→c < (i:Int))∧Up ns i r:=by
 induction h with
 | nil=>intro i h1 h2;omega
 | @snoc a m b qs n h k e ih jh =>
  intro i h1 h2;have f:(qs ++ [(b:Int)])[qs.length]? = some (b:Int):=by simp
  have d:m≤i→∀ (g:Nat) c,g < qs.length→(qs ++ [(b:Int)])[g]? = some c→c < (i:Int):=by
   intro y g c u j;rw [List.getElem?_append_left u] at j
   have:=h.ids c (aaM j)
   omega
  rcases Nat.lt_or_ge i m with h3 | h3
  ·obtain⟨q,r,l,w,x,t⟩:=ih i h1 h3;have u:=(aaE.1 l).1
   refine⟨q,r,by rw [List.getElem?_append_left u];exact l,w,fun g c v j=>?_,t⟩
   rw [List.getElem?_append_left (by omega)] at j
   exact x g c v j
  ·rcases Nat.lt_or_ge i b with h4 | h4
   ·obtain⟨q,r,l,w,x,t⟩:=jh i h3 h4;exact⟨qs.length,b,f,by omega,d h3,t.more e (aaM l)⟩
   ·obtain rfl:i=b:=by omega
    exact⟨qs.length,i,f,aaJ _,d h3,.refl _⟩
theorem YG {ns:List Nd}{qs:List Int}(b:Wf ns)(g:Fo ns 0 ns.length qs){i r:Nat}(h:Up ns i r):(cZ ns).getD r 0=-1→(AZ (cZ ns) i).getLast? = some r:=by
 obtain⟨f,d⟩:=nL b
 induction h with
 | refl=>intro a;rw [Dp a];rfl
 | @step i j r x e h k ih =>
  intro a;rw [FQ f (Ef b g e h) (by rw [d];exact (aaE.1 e).1),List.getLast?_cons,ih a];rfl
theorem Un {ns:List Nd}{qs:List Int}(d:Wf ns)(a:Fo ns 0 ns.length qs){i:Nat}(hi:i < ns.length):∃ (q r:Nat),qs[q]? = some (r:Int)∧i≤r∧(∀ (e:Nat) c,e < q→qs[e]? = some c→c < (i:Int))∧(AZ (cZ ns) i).getLast? = some r:=by
 obtain⟨q,r,b,f,g,j⟩:=fo_up a i (aaL _) hi;exact⟨q,r,b,f,g,YG d a j (UC d a (aaM b))⟩
theorem ZR {ns:List Nd}{qs:List Int}(b:Wf ns)(l:Fo ns 0 ns.length qs){B:Nat}(g:∀ k ∈ qs,q9 ns B k):∀ (f j:Nat),j < ns.length→ns.length≤j+f→(AZ (cZ ns) j).length≤B∧q9 ns (B+1 - (AZ (cZ ns) j).length) (j:Int)
 | 0,j,hj,hl=>by omega
 | f+1,j,hj,hl=>by
  obtain⟨i,v⟩:=nL b;rcases i j (by omega) with C | ⟨h1,h2⟩
  ·have F:=Dp C;obtain⟨q,r,D,_,_,n⟩:=Un b l hj;rw [F] at n ⊢
   obtain rfl:j=r:=by simpa using n
   have a:=g _ (aaM D)
   cases B with
   | zero=>exact a.elim
   | succ B=>exact⟨by simp,by simpa using a⟩
  ·obtain⟨m,d⟩:∃ m:Nat,(cZ ns).getD j 0=(m:Int):=⟨((cZ ns).getD j 0).toNat,by omega⟩;rw [d] at h1 h2
   obtain⟨x,G,A⟩:=MZ b hj d;obtain⟨H,t⟩:=ZR b l g f m (by omega) (by omega);rw [FQ i d (by omega),List.length_cons];obtain⟨c,w⟩:∃ c,B+1 - (AZ (cZ ns) m).length=c+1:=⟨B - (AZ (cZ ns) m).length,by omega⟩;rw [w] at t
   obtain⟨_,y,hy,e⟩:=t;rw [aaQ,G] at hy
   cases hy;have a:=e _ A;have u:B+1 - ((AZ (cZ ns) m).length+1)=c:=by omega
   rw [u]
   cases c with
   | zero=>exact a.elim
   | succ c=>exact⟨by omega,a⟩
theorem SH:∀ (l:List Nat) (M:Nat),l ≠ []→(∀ d ∈ l,d≤M)→Lib.maxOf (l.map fun (d:Nat)=>(d:Int))≤(M:Int):=by
 have b:∀ (l:List Nat) (a M:Nat),a≤M→(∀ d ∈ l,d≤M)→(l.map fun (d:Nat)=>(d:Int)).foldl max (a:Int)≤(M:Int):=by
  intro l
  induction l with
  | nil=>intro a M f _;show (a:Int)≤_;omega
  | cons d r j =>
   intro a M f hd;have g:=hd d (List.mem_cons_self ..);have e:max (a:Int) (d:Int)=((max a d:Nat):Int):=by omega
   show (r.map fun (d:Nat)=>(d:Int)).foldl max (max (a:Int) (d:Int))≤_
   rw [e];exact j (max a d) M (by omega) (fun x i=>hd x (List.mem_cons_of_mem _ i))
 intro l M h hd
 cases l with
 | nil=>exact absurd rfl h
 | cons a r =>
  show ((a :: r).map fun (d:Nat)=>(d:Int)).foldl max (a:Int)≤_
  exact b (a :: r) a M (hd a (List.mem_cons_self ..)) hd
theorem V8 {T:Tr}(b:Wf T.nodes)(f:Fo T.nodes 0 T.nodes.length T.items){B:Nat}(g:∀ k ∈ T.items,q9 T.nodes B k):om T≤(B:Int):=by
 unfold om jB;split
 ·omega
 ·rename_i h0
  have a:(f_ T.nodes).length=T.nodes.length:=by unfold f_;rw [uV,List.length_replicate]
  refine SH _ _ (fun e=>by rw [e] at a;exact h0 a.symm) (fun d hd=>?_);obtain⟨j,i,rfl⟩:=List.getElem_of_mem hd
  have:=Kl b f (j:=j) (by omega)
  rw [aaH,aaD i,Option.getD_some] at this
  rw [this];exact (ZR b f g T.nodes.length j (by omega) (by omega)).1
structure dX (T:Tr):Prop where
 ok:jN T.nodes
 wf:Wf T.nodes
 fo:Fo T.nodes 0 T.nodes.length T.items
 it:∀ a ∈ T.items,pI (dB T.nodes a)=true
 sz:∀ x ∈ T.nodes,Mist.sized T x=true
 ht:∀ k ∈ T.items,q9 T.nodes 11 k
 few:T.nodes.length≤800
 itf:T.items.length≤12
section
variable {T:Tr} (h:dX T)
include h
theorem dX.large:Mist.large T=false:=by
 have h1:=h.few;have h2:=h.itf;unfold Mist.large;rw [aaV (by omega),aaV (by omega)];rfl
theorem dX.o:¬ 0≤outT T:=by
 have h1:=Io T;rw [aaR.2 h.sz] at h1
 simpa using h1
theorem dX.parsed:iy T=(0,0):=by
 have hd:=V8 h.wf h.fo h.ht;unfold iy;rw [if_neg (by rintro (e | e);(rw [h.large] at e;cases e);omega),if_neg h.o]
theorem dX.check:dN T=0∧xO T.nodes:=ML h.ok h.wf h.fo h.it (by rw [h.parsed])
theorem dX.good:BD T:=by
 have f:=h.few
 have a:∀ x ∈ T.nodes,x.kids.length≤1000000∧nJ T x:=fun x b=>by
  obtain⟨i,d,e⟩:=List.mem_iff_getElem.1 b;obtain⟨h1,h2,h3⟩:=yJ (T:=T) h.ok h.wf h.fo (i:=i) (x:=x) (by rw [← e];exact aaD d);exact⟨by omega,h3⟩
 exact⟨h.wf,fun x b=>(a x b).2,fun x b=>(a x b).1,by omega⟩
end
end Go.Proofs.YthepmkjggfijoaaGreatDoor
