/-
  A part of the proof.
-/
import Derived.Test.YtalghggmkojblaaGreatDoorS40
import Derived.Test.YtalghggmkojblaaGreatDoorS37
import Derived.Test.YtalghggmkojblaaGreatDoorS36
set_option linter.all false
set_option maxRecDepth 100000
set_option maxHeartbeats 4000000
namespace Mist
def Ht (ns:List Nd):Nat→Int→Prop
 | 0,_=>False
 | b+1,i=>0≤i∧∃ x,ns[i.toNat]? = some x∧∀ k ∈ x.kids,Ht ns b k
theorem Ht.app {ns:List Nd}(t:List Nd):∀ {b:Nat} {i:Int},Ht ns b i→Ht (ns ++ t) b i
 | 0,_,h=>h
 | b+1,i,⟨h0,x,hx,hk⟩=>⟨h0,x,by rw [List.getElem?_append_left (amG.1 hx).1];exact hx,fun k a=>Ht.app t (hk k a)⟩
theorem Ht.more {ns:List Nd}:∀ {b c:Nat} {i:Int},Ht ns b i→b≤c→Ht ns c i
 | 0,_,_,h,_=>h.elim
 | b+1,0,_,_,hc=>absurd hc (by omega)
 | b+1,c+1,i,⟨h0,x,hx,hk⟩,hc=>⟨h0,x,hx,fun k a=>Ht.more (hk k a) (by omega)⟩
def szL (x:Nd):Bool :=
 if x.kind=40 then false
 else if x.kind=41 then decide (x.kids.length≤6)
 else if x.kind=42 then decide ((x.kids.length:Int) - 2≤4) && decide (x.n≤8)
 else if x.kind=33 then within x.n 1 6
 else if x.kind=26 then decide (x.kids.length≤6)
 else if x.kind=46 then !(x.n == 8) || decide (x.kids.length≤4)
 else true
def Ad (s s':Gs)(c:Nat):Prop:=∃ new,s'.ns=s.ns ++ new∧new.length≤c∧∀ x ∈ new,szL x=true
section
variable {s s1 s2:Gs} {c c1 c2:Nat}
theorem Ad.same (h:s1.ns=s.ns):Ad s s1 0:=⟨[],by rw [h,List.append_nil],amL _,fun x a=>by cases a⟩
theorem Ad.trans (h:Ad s s1 c1)(k:Ad s1 s2 c2):Ad s s2 (c1+c2):=by
 obtain⟨e,a,l1,p1⟩:=h;obtain⟨f,b,i,g⟩:=k;exact⟨e ++ f,by rw [b,a,List.append_assoc],by rw [amQ];omega,fun x d=>(List.mem_append.1 d).elim (p1 x) (g x)⟩
theorem Ad.on (h:Ad s s1 c)(e:s2.ns=s1.ns):Ad s s2 c:=by obtain⟨n,a,l,p⟩:=h;exact⟨n,by rw [e,a],l,p⟩
theorem Ad.of (h:Ad s1 s2 c)(e:s1.ns=s.ns):Ad s s2 c:=by obtain⟨n,a,l,p⟩:=h;exact⟨n,by rw [a,e],l,p⟩
theorem Ad.le (h:Ad s s1 c)(b:c≤c1):Ad s s1 c1:=by obtain⟨n,a,l,p⟩:=h;exact⟨n,a,by omega,p⟩
theorem Ad.put (h:Ad s s1 c){n:Nd}(b:szL n=true):Ad s (s1.put n) (c+1):=by
 obtain⟨new,e,l,p⟩:=h
 exact⟨new ++ [n],by show s1.ns ++ [n]=_;rw [e,List.append_assoc],by rw [amQ];exact Nat.add_le_add_right l 1,fun x a=>by
  rcases List.mem_append.1 a with a | a
  ·exact p x a
  ·rw [List.mem_singleton.1 a];exact b⟩
theorem Ht.ad {b:Nat}{i:Int}(h:Ht s.ns b i)(k:Ad s s1 c):Ht s1.ns b i:=by
 obtain⟨new,e,_,_⟩:=k;rw [e];exact h.app new
theorem Ht.put {n:Nd}{b:Nat}(h:∀ k ∈ n.kids,Ht s.ns b k):Ht (s.put n).ns (b+1) s.id:=by
 refine⟨by unfold Gs.id;omega,n,?_,fun k a=>(h k a).app [n]⟩
 show (s.ns ++ [n])[((s.ns.length:Int)).toNat]? = some n
 rw [amS,List.getElem?_append_right (amL _),Nat.sub_self];rfl
end
structure Hg (s:Gs) (r:Gr) (b:Nat):Prop where
 ad:Ad s r.st r.pc.length
 ht:Ht r.st.ns b r.ix
theorem Hg.more {s:Gs}{r:Gr}{b c:Nat}(h:Hg s r b)(a:b≤c):Hg s r c:=⟨h.ad,h.ht.more a⟩
theorem Hg.end_ {s s1:Gs}{I:eO}{n:Nd}{b c:Nat}(h:Ad s s1 c)(a:c+1≤I.length)(d:∀ k ∈ n.kids,Ht s1.ns b k)(e:szL n=true):Hg s (d9 I s1 n) (b+1):=⟨(h.put e).le a,Ht.put d⟩
theorem tH (wild:Bool)(E:Gs→Gr):∀ (m:Nat) (r:Gl),(eP wild E m r).ix.length=r.ix.length+m
 | 0,r=>rfl
 | m+1,r=>by
  rw [eP];simp only
  split
  ·rw [tH wild E m,amQ];simp only [amV];omega
  ·rw [tH wild E m,amQ];simp only [amV];omega
theorem Cu (wild:Bool)(I:eO)(s:Gs):I.length+2≤(mI wild I s).length:=by
 unfold mI;split <;> simp [amQ]
theorem Vl (b:Nat)(s:Gs):Hg s (nA b s) 1:=by
 have d:0+1≤(pQ ((b * 7:Nat):Int)).length:=by unfold pQ;split <;> simp
 unfold nA;split
 ·exact Hg.end_ (b:=0) (.same rfl) d (fun k a=>by cases a) rfl
 split
 ·exact Hg.end_ (b:=0) (.same rfl) (by simp) (fun k a=>by cases a) rfl
 ·exact Hg.end_ (b:=0) (.same rfl) (by simp) (fun k a=>by cases a) rfl
section
variable (wild:Bool) {E:Gs→Gr} {B:Nat} (h:∀ s,Hg s (E s) B)
include h
theorem AB (s:Gs):∀ (m:Nat) (r:Gl),Ad s r.st r.pc.length→(∀ k ∈ r.ix,Ht r.st.ns B k)→Ad s (eP wild E m r).st (eP wild E m r).pc.length∧(∀ k ∈ (eP wild E m r).ix,Ht (eP wild E m r).st.ns B k)
 | 0,r,ha,hk=>⟨ha,hk⟩
 | m+1,r,ha,hk=>by
  rw [eP];simp only
  split
  ·have h1:=h r.st;refine AB s m _ ?_ ?_
   ·show Ad s (E r.st).st (r.pc ++ (E r.st).pc).length
    rw [amQ];exact ha.trans h1.ad
   ·intro k a;rcases List.mem_append.1 a with a | a
    ·exact (hk k a).ad h1.ad
    ·rw [List.mem_singleton.1 a];exact h1.ht
  ·have h1:=h (aM wild r.st);have h2:=h1.ad.of (aO wild r.st);refine AB s m _ ?_ ?_
   ·show Ad s (E (aM wild r.st)).st (r.pc ++ (gu [44] :: eO.on _ (E (aM wild r.st)).pc)).length
    rw [amQ,List.length_cons,jP];exact (ha.trans h2).le (by omega)
   ·intro k a;rcases List.mem_append.1 a with a | a
    ·exact (hk k a).ad h2
    ·rw [List.mem_singleton.1 a];exact h1.ht
theorem VF (s:Gs):∀ (m:Nat) (r:Gl),Ad s r.st r.pc.length→(∀ k ∈ r.ix,Ht r.st.ns (B+1) k)→Ad s (jw wild E m r).st (jw wild E m r).pc.length∧(∀ k ∈ (jw wild E m r).ix,Ht (jw wild E m r).st.ns (B+1) k)
 | 0,r,ha,b=>⟨ha,b⟩
 | m+1,r,ha,b=>by
  rw [jw];obtain⟨a,e⟩:∃ a,a=if r.ix=[] then r.st else aM wild r.st:=⟨_,rfl⟩
  have f:a.ns=r.st.ns:=by rw [e];split;rfl;exact aO wild r.st
  simp only [← e];have h1:=h a.tl;have h2:Ad r.st (E a.tl).st (E a.tl).pc.length:=h1.ad.of f;have h3:=h2.put (n:=⟨25,dD a.nx,0,[(E a.tl).ix],0⟩) rfl;refine VF s m _ ?_ ?_
  ·show Ad s ((E a.tl).st.put _) (r.pc ++ _).length
   refine (ha.trans h3).le ?_;rw [amQ];split
   ·simp only [List.length_cons];omega
   ·simp only [List.length_cons];omega
  ·intro k d;rcases List.mem_append.1 d with d | d
   ·exact (b k d).ad h3
   ·rw [List.mem_singleton.1 d];exact Ht.put fun k b=>by rw [List.mem_singleton.1 b];exact h1.ht
theorem aiO (b:Nat)(s:Gs):Hg s (Ir wild E b s) (B+1):=by
 unfold Ir;have h1:=h s;have h2:=h (E s).st;split
 ·unfold Gx;simp only
  refine Hg.end_ (c:=(E s).pc.length) (h1.ad.on (by rw [eH,aO])) ?_ (fun k a=>?_) ?_
  ·refine Nat.le_trans ?_ (Cu wild _ _);rw [List.length_cons,jP];omega
  ·rw [List.mem_singleton.1 a,eH,aO];exact h1.ht
  ·split <;> rfl
 ·unfold Nw;simp only
  have e:(kI wild (aM wild (aM wild (E (E s).st).st))).ns=(E (E s).st).st.ns:=by rw [eH,aO,aO]
  refine Hg.end_ (c:=(E s).pc.length+(E (E s).st).pc.length) ((h1.ad.trans h2.ad).on e) ?_ (fun k a=>?_) ?_
  ·refine Nat.le_trans ?_ (Cu wild _ _);rw [amQ,List.length_cons,jP];omega
  ·rw [e];rcases List.mem_cons.1 a with rfl | a
   ·exact h1.ht.ad h2.ad
   ·rw [List.mem_singleton.1 a];exact h2.ht
  ·have d:b % 13 < 13:=Nat.mod_lt _ (by decide)
   generalize b % 13=r at d ⊢
   unfold szL;rw [if_neg (by show ¬ 6+r=40;omega),if_neg (by show ¬ 6+r=41;omega),if_neg (by show ¬ 6+r=42;omega),if_neg (by show ¬ 6+r=33;omega),if_neg (by show ¬ 6+r=26;omega),if_neg (by show ¬ 6+r=46;omega)]
theorem adP (b:Nat)(s:Gs):Hg s (jd wild E b s) (B+2):=by
 unfold jd;simp only
 generalize g:s.tl=s'
 have f:s'.ns=s.ns:=by rw [← g];rfl
 generalize dD s.nx=x
 refine (fun (q:Hg s' _ (B+2))=>(⟨q.ad.of f,q.ht⟩:Hg s _ (B+2))) ?_;have h1:=h s';have h2:=h (E s').st;have h3:=h (E (E s').st).st;have empty:∀ (z:Gs),z.ns=s'.ns→Ad s' (Gl.st ⟨[],[],z⟩) (Gl.pc ⟨[],[],z⟩).length∧∀ k ∈ (Gl.ix ⟨[],[],z⟩),Ht (Gl.st ⟨[],[],z⟩).ns B k:=fun z i=>⟨.same i,fun k a=>by cases a⟩
 split
 ·unfold ifG;simp only
  have e:(kI wild (aM wild (aM wild (aM wild (aM wild (aM wild (E (E (E s').st).st).st)))))).ns=(E (E (E s').st).st).st.ns:=by simp only [eH,aO]
  refine Hg.more (Hg.end_ (b:=B) ((h1.ad.trans (h2.ad.trans h3.ad)).on e) ?_ (fun k a=>?_) rfl) (by omega)
  ·refine Nat.le_trans ?_ (Cu wild _ _);simp only [amQ,List.length_cons,jP];omega
  ·rw [e];rcases List.mem_cons.1 a with rfl | a
   ·exact h1.ht.ad (h2.ad.trans h3.ad)
   rcases List.mem_cons.1 a with rfl | a
   ·exact h2.ht.ad h3.ad
   ·rw [List.mem_singleton.1 a];exact h3.ht
 split
 ·unfold OU;simp only
  have e:(kI wild (aM wild (aM wild (aM wild (aM wild (E (E s').st).st))))).ns=(E (E s').st).st.ns:=by simp only [eH,aO]
  refine Hg.more (Hg.end_ (b:=B) ((h1.ad.trans h2.ad).on e) ?_ (fun k a=>?_) rfl) (by omega)
  ·refine Nat.le_trans ?_ (Cu wild _ _);simp only [amQ,List.length_cons,jP];omega
  ·rw [e];rcases List.mem_cons.1 a with rfl | a
   ·exact h1.ht.ad h2.ad
   ·rw [List.mem_singleton.1 a];exact h2.ht
 split
 ·unfold D5;simp only
  obtain⟨l1,d⟩:=AB wild h s' (s'.nx % 4) ⟨[],[],s'.tl⟩ (empty s'.tl rfl).1 (empty s'.tl rfl).2;refine Hg.more (Hg.end_ (b:=B) (l1.on (aO wild _)) ?_ (fun k a=>?_) rfl) (by omega)
  ·simp only [amQ,List.length_cons];omega
  ·rw [aO];exact d k a
 split
 ·unfold vO;simp only
  refine Hg.more (Hg.end_ (b:=B) (h1.ad.on (aO wild _)) ?_ (fun k a=>?_) rfl) (by omega)
  ·simp only [amQ,List.length_cons];omega
  ·rw [List.mem_singleton.1 a,aO];exact h1.ht
 split
 ·unfold vQ;simp only
  refine Hg.more (Hg.end_ (b:=B) ((h1.ad.trans h2.ad).on (aO wild _)) ?_ (fun k a=>?_) rfl) (by omega)
  ·simp only [amQ,List.length_cons];omega
  ·rw [aO];rcases List.mem_cons.1 a with rfl | a
   ·exact h1.ht.ad h2.ad
   ·rw [List.mem_singleton.1 a];exact h2.ht
 split
 ·unfold vE;simp only
  obtain⟨l1,d⟩:=AB wild h s' (1+s'.nx % 4) ⟨[],[],s'.tl⟩ (empty s'.tl rfl).1 (empty s'.tl rfl).2;have j:=tH wild E (1+s'.nx % 4) ⟨[],[],s'.tl⟩;refine Hg.more (Hg.end_ (b:=B) (l1.on (aO wild _)) ?_ (fun k a=>?_) ?_) (by omega)
  ·simp only [amQ,List.length_cons,jP];omega
  ·rw [aO];exact d k a
  ·show decide (_≤6)=true
   rw [decide_eq_true_iff,j]
   show 0+_≤6
   omega
 ·unfold PG;simp only
  obtain⟨l1,d⟩:=VF wild h s' (1+b % 3) ⟨[],[],s'⟩ (.same rfl) (fun k a=>by cases a);refine Hg.end_ (b:=B+1) (l1.on (aO wild _)) ?_ (fun k a=>?_) rfl
  ·simp only [amQ,List.length_cons];omega
  ·rw [aO];exact d k a
end
theorem zW (wild:Bool):∀ (d:Nat) (s:Gs),Hg s (dx wild d s) (2 * d+1)
 | 0,s=>by
  have h:=Vl (s.nx % 60) s.tl;exact⟨h.ad.of rfl,h.ht⟩
 | d+1,s=>by
  have h:=zW wild d;rw [dx];split
  ·have h:=Vl s.nx s.tl;exact⟨h.ad.of rfl,h.ht.more (by omega)⟩
  split
  ·have h:=aiO wild h s.nx s.tl;exact⟨h.ad.of rfl,h.ht.more (by omega)⟩
  ·have h:=adP wild h s.nx s.tl;exact⟨h.ad.of rfl,h.ht.more (by omega)⟩
theorem Vg (wild:Bool):∀ (d:Nat) (s:Gs),Hg s (dG wild d s) (d+1):=by
 have a:∀ (s:Gs) (p:Bs × Nat × Bs) (n:Nd),n.kids=[]→szL n=true→Hg s (d9 [p] s.tl n) 1:=fun s p n h1 h2 =>
  Hg.end_ (b:=0) (.same rfl) (by simp) (fun k e=>by rw [h1] at e;cases e) h2
 intro d
 induction d with
 | zero =>
  intro s;rw [dG];split
  ·exact a _ _ _ rfl rfl
  split
  ·exact a _ _ _ rfl rfl
  ·exact a _ _ _ rfl rfl
 | succ d g =>
  intro s;rw [dG];split
  ·exact (a _ _ _ rfl rfl).more (by omega)
  split
  ·exact (a _ _ _ rfl rfl).more (by omega)
  split
  ·exact (a _ _ _ rfl rfl).more (by omega)
  ·simp only
   have h1:=g s.tl;refine Hg.end_ (b:=d+1) ((h1.ad.of (s:=s) rfl).on (by rw [aO];rfl)) ?_ (fun k e=>?_) ?_
   ·simp only [amQ,List.length_cons];omega
   ·rw [List.mem_singleton.1 e,aO];exact h1.ht
   ·have f:(dG wild d s.tl).st.nx % 6 < 6:=Nat.mod_lt _ (by decide)
    generalize (dG wild d s.tl).st.nx % 6=r at f ⊢
    show within ((1+r:Nat):Int) 1 6=true
    unfold within;rw [amU,decide_eq_true_iff,decide_eq_true_iff];omega
theorem DK (wild:Bool)(s:Gs):∀ (m:Nat) (r:Gl),Ad s r.st r.pc.length→(∀ k ∈ r.ix,Ht r.st.ns 4 k)→Ad s (dL wild m r).st (dL wild m r).pc.length∧(∀ k ∈ (dL wild m r).ix,Ht (dL wild m r).st.ns 4 k)
 | 0,r,ha,b=>⟨ha,b⟩
 | m+1,r,ha,b=>by
  rw [dL];obtain⟨a,f⟩:∃ a,a=if r.ix=[] then r.st else aM wild r.st:=⟨_,rfl⟩
  have g:a.ns=r.st.ns:=by rw [f];split;rfl;exact aO wild r.st
  simp only [← f];have h1:=Vg wild 2 a.tl;have e:(aM wild (dG wild 2 a.tl).st).ns=(dG wild 2 a.tl).st.ns:=aO wild _;have h2:Ad r.st (aM wild (dG wild 2 a.tl).st) (dG wild 2 a.tl).pc.length:=(h1.ad.of g).on e;have h3:=h2.put (n:=⟨34,dD a.nx,0,[(dG wild 2 a.tl).ix],0⟩) rfl;refine DK wild s m _ ?_ ?_
  ·refine (ha.trans h3).le ?_
   show _≤(r.pc ++ _).length
   rw [amQ];split
   ·simp only [List.length_cons,jP];omega
   ·simp only [List.length_cons,jP];omega
  ·intro k d;rcases List.mem_append.1 d with d | d
   ·exact (b k d).ad h3
   ·rw [List.mem_singleton.1 d];exact Ht.put fun k b=>by rw [List.mem_singleton.1 b,e];exact h1.ht
theorem wQ (wild:Bool):∀ (m:Nat) (r:Gl),(dL wild m r).ix.length=r.ix.length+m
 | 0,r=>rfl
 | m+1,r=>by
  rw [dL,wQ wild m]
  show (r.ix ++ [_]).length+m=_
  rw [amQ];simp only [amV];omega
def Sz (ns:List Nd)(x:Nd):Prop:=szL x=true∨(x.kind=40∧∃ (a c:Int) (p q:Nd),x.kids=[a,c]∧ns[a.toNat]? = some p∧ns[c.toNat]? = some q∧p.n≤q.n∧q.n≤p.n+11)
theorem Sz.app {ns:List Nd}{x:Nd}(t:List Nd)(h:Sz ns x):Sz (ns ++ t) x:=by
 rcases h with h | ⟨h,a,c,p,q,e,b,d,f⟩
 ·exact .inl h
 ·exact .inr ⟨h,a,c,p,q,e,by rw [List.getElem?_append_left (amG.1 b).1];exact b,by rw [List.getElem?_append_left (amG.1 d).1];exact d,f⟩
structure Hi (s:Gs) (r:Gr):Prop where
 ad:∃ new,r.st.ns=s.ns ++ new∧new.length≤r.pc.length∧∀ x ∈ new,Sz r.st.ns x
 ht:Ht r.st.ns 11 r.ix
theorem Hi.of {s:Gs}{r:Gr}{b:Nat}(h:Hg s r b)(a:b≤11):Hi s r:=by
 obtain⟨new,e,l,p⟩:=h.ad;exact⟨⟨new,e,l,fun x d=>.inl (p x d)⟩,h.ht.more a⟩
theorem Wz (wild:Bool)(x:Bs)(s:Gs):Hi s (rH wild x s):=by
 unfold rH;simp only
 obtain⟨low,f⟩:∃ low:Int,low=((s.nx % 30:Nat):Int) - 15:=⟨_,rfl⟩;rw [← f];have u:∀ n,(eT n s.tl).st=s.tl.put ⟨1,[],n,[],0⟩:=fun n=>rfl
 obtain⟨k,d⟩:∃ k,k=(eT low s.tl).st.nx % 12:=⟨_,rfl⟩;have q:k < 12:=by rw [d];exact Nat.mod_lt _ (by decide)
 rw [← d];obtain⟨s1,g⟩:∃ s1,s1=(eT (low+(k:Int)) (eT low s.tl).st.tl).st:=⟨_,rfl⟩;have a:s1.ns=s.ns ++ [⟨1,[],low,[],0⟩] ++ [⟨1,[],low+(k:Int),[],0⟩]:=by rw [g];rfl
 rw [← g];have e:(aM wild (aM wild (aM wild s1))).ns=s1.ns:=by rw [aO,aO,aO]
 have r:(eT low s.tl).ix=(s.ns.length:Int):=rfl
 have t:(eT (low+(k:Int)) (eT low s.tl).st.tl).ix=((s.ns.length+1:Nat):Int):=by
  show (((s.ns ++ [_]).length:Nat):Int)=_
  rw [amQ];rfl
 have l:s1.ns[s.ns.length]? = some ⟨1,[],low,[],0⟩:=by
  rw [a,List.append_assoc,List.getElem?_append_right (amL _),Nat.sub_self];rfl
 have m:s1.ns[s.ns.length+1]? = some ⟨1,[],low+(k:Int),[],0⟩:=by
  rw [a,List.append_assoc,List.getElem?_append_right (by omega),show s.ns.length+1 - s.ns.length=1 by omega];rfl
 rw [r,t]
 refine⟨⟨[⟨1,[],low,[],0⟩,⟨1,[],low+(k:Int),[],0⟩,⟨40,x,0,[(s.ns.length:Int),((s.ns.length+1:Nat):Int)],0⟩],?_,?_,?_⟩,?_⟩
 ·show (aM wild (aM wild (aM wild s1))).ns ++ [_]=_
  rw [e,a];simp only [List.append_assoc,List.cons_append,List.nil_append]
 ·show 3≤_
  unfold d9;simp only [List.length_cons,amQ,jP];omega
 ·intro y hy;rcases List.mem_cons.1 hy with rfl | hy
  ·exact .inl rfl
  rcases List.mem_cons.1 hy with rfl | hy
  ·exact .inl rfl
  rw [List.mem_singleton.1 hy];exact Sz.app _ (.inr ⟨rfl,(s.ns.length:Int),((s.ns.length+1:Nat):Int),⟨1,[],low,[],0⟩,⟨1,[],low+(k:Int),[],0⟩,rfl,by rw [e,amS];exact l,by rw [e,amS];exact m,by show low≤low+(k:Int);omega,by show low+(k:Int)≤low+11;omega⟩)
 ·refine Ht.more (Ht.put (b:=1) (s:=aM wild (aM wild (aM wild s1))) fun j i=>?_) (by omega);rw [e];rcases List.mem_cons.1 i with rfl | i
  ·exact⟨by omega,_,by rw [amS];exact l,fun k d=>by cases d⟩
  ·rw [List.mem_singleton.1 i];exact⟨by omega,_,by rw [amS];exact m,fun k d=>by cases d⟩
theorem aed (wild:Bool)(s:Gs):Hi s (gI wild s):=by
 unfold gI;simp only
 generalize y:s.tl.tl=a
 have u:a.ns=s.ns:=by rw [← y];rfl
 generalize dD s.tl.nx=x
 refine (fun (q:Hi a _)=>(⟨by rw [← u];exact q.ad,q.ht⟩:Hi s _)) ?_;split
 ·exact Wz wild x a
 split
 ·unfold Ig;simp only
  obtain⟨l1,j⟩:=DK wild a (1+a.nx % 6) ⟨[],[],a.tl⟩ (.same rfl) (fun k d=>by cases d);have i:=wQ wild (1+a.nx % 6) ⟨[],[],a.tl⟩;refine Hi.of (Hg.end_ (b:=4) l1 ?_ j ?_) (by omega)
  ·simp only [amQ,List.length_cons];omega
  ·show decide (_≤6)=true
   rw [decide_eq_true_iff,i]
   show 0+_≤6
   omega
 split
 ·unfold IL;simp only
  obtain⟨l1,j⟩:=DK wild a (a.nx % 5) ⟨[],[],a.tl⟩ (.same rfl) (fun k d=>by cases d);have i:=wQ wild (a.nx % 5) ⟨[],[],a.tl⟩;have i:(dL wild (a.nx % 5) ⟨[],[],a.tl⟩).ix.length≤4:=by rw [i];show 0+_≤4;omega
  generalize dL wild (a.nx % 5) ⟨[],[],a.tl⟩=r at l1 j i ⊢
  have h1:=Vg wild 2 r.st
  generalize dG wild 2 r.st=t at h1 ⊢
  have A:rX t.st≤8:=by unfold rX;split <;> omega
  generalize rX t.st=n at A ⊢
  obtain⟨s1,f⟩:∃ s1,s1=if 0 < n then aM wild t.st.tl else t.st.tl:=⟨_,rfl⟩
  have l:s1.ns=t.st.ns:=by rw [f];split;(rw [aO];rfl);rfl
  rw [← f];have h2:=zW wild 4 s1
  generalize dx wild 4 s1=b at h2 ⊢
  have g:Ad t.st b.st b.pc.length:=h2.ad.of l;have e:(aM wild (aM wild (aM wild b.st))).ns=b.st.ns:=by simp only [aO]
  refine Hi.of (Hg.end_ (b:=9) ((l1.trans (h1.ad.trans g)).on e) ?_ (fun k d=>?_) ?_) (by omega)
  ·simp only [amQ,List.length_cons];omega
  ·rw [e];rcases List.mem_append.1 d with d | d
   ·exact ((j k d).ad (h1.ad.trans g)).more (by omega)
   rcases List.mem_cons.1 d with rfl | d
   ·exact (h1.ht.ad g).more (by omega)
   ·rw [List.mem_singleton.1 d];exact h2.ht
  ·show (decide ((((r.ix ++ [t.ix,b.ix]).length:Nat):Int) - 2≤4) && decide ((n:Int)≤8))=true
   rw [amU,decide_eq_true_iff,decide_eq_true_iff,amQ]
   show (((r.ix.length+2:Nat):Int) - 2≤4)∧_
   omega
 split
 ·unfold qG;simp only
  have h1:=zW wild 4 a;refine Hi.of (Hg.end_ (b:=9) (h1.ad.on (aO wild _)) ?_ (fun k d=>?_) rfl) (by omega)
  ·simp only [List.length_cons,jP];omega
  ·rw [List.mem_singleton.1 d,aO];exact h1.ht
 split
 ·unfold qJ;simp only
  have h1:=zW wild 4 a;refine Hi.of (Hg.end_ (b:=9) (h1.ad.on (aO wild _)) ?_ (fun k d=>?_) rfl) (by omega)
  ·simp only [List.length_cons];omega
  ·rw [List.mem_singleton.1 d,aO];exact h1.ht
 split
 ·unfold qN;exact Hi.of (Hg.end_ (b:=0) (Ad.same (aO wild a)) (by simp) (fun k d=>by cases d) rfl) (by omega)
 ·unfold sw;simp only
  have w:1+a.nx % 8≤8:=by omega
  generalize 1+a.nx % 8=q at w ⊢
  obtain⟨m,v⟩:∃ m,m=if q=7 then 0 else if q=8 then 1+a.tl.nx % 4 else 1:=⟨_,rfl⟩
  have C:m≤4:=by rw [v];split;omega;split <;> omega
  obtain⟨s1,f⟩:∃ s1,s1=if q=8 then a.tl.tl else a.tl:=⟨_,rfl⟩
  have l:s1.ns=a.ns:=by rw [f];split <;> rfl
  rw [← v,← f];obtain⟨l1,j⟩:=AB wild (zW wild 3) a m ⟨[],[],s1⟩ (.same l) (fun k d=>by cases d);have i:=tH wild (dx wild 3) m ⟨[],[],s1⟩;refine Hi.of (Hg.end_ (b:=7) (l1.on (aO wild _)) ?_ (fun k d=>?_) ?_) (by omega)
  ·simp only [List.length_cons,jP];omega
  ·rw [aO];exact j k d
  ·show (!(((q:Nat):Int) == 8) || decide (_≤4))=true
   rw [Bool.or_eq_true,decide_eq_true_iff,i];right
   show 0+m≤4
   omega
theorem U4 (wild:Bool):∀ (m:Nat) (r:Gl),(r.st.ns.length≤r.pc.length∧(∀ x ∈ r.st.ns,Sz r.st.ns x)∧∀ k ∈ r.ix,Ht r.st.ns 11 k) →
  (lF wild m r).st.ns.length≤(lF wild m r).pc.length∧(∀ x ∈ (lF wild m r).st.ns,Sz (lF wild m r).st.ns x)∧∀ k ∈ (lF wild m r).ix,Ht (lF wild m r).st.ns 11 k
 | 0,r,h=>h
 | m+1,r,⟨h1,h2,h3⟩=>by
  rw [lF];split
  ·exact⟨h1,h2,h3⟩
  simp only
  obtain⟨⟨new,e,l,p⟩,f⟩:=aed wild r.st;have d:(iF wild r.st).st.ns=(gI wild r.st).st.ns:=aO wild _;have g:(iF wild r.st).pc.length=(gI wild r.st).pc.length+1:=amQ;refine U4 wild m _ ⟨?_,?_,?_⟩
  ·show (iF wild r.st).st.ns.length≤(r.pc ++ _).length
   rw [d,e,amQ,amQ];split
   ·omega
   ·rw [jP];omega
  ·show ∀ x ∈ (iF wild r.st).st.ns,Sz (iF wild r.st).st.ns x
   rw [d];intro x a;rw [e] at a
   rcases List.mem_append.1 a with a | a
   ·rw [e];exact (h2 x a).app new
   ·exact p x a
  ·show ∀ k ∈ r.ix ++ [(iF wild r.st).ix],Ht (iF wild r.st).st.ns 11 k
   rw [d];intro k b;rcases List.mem_append.1 b with b | b
   ·rw [e];exact (h3 k b).app new
   ·rw [List.mem_singleton.1 b];exact f
structure GOk (wild:Bool) (b:Bs):Prop where
 few:(qj wild b).nodes.length≤(grown wild b).pc.length
 sz:∀ x ∈ (qj wild b).nodes,Sz (qj wild b).nodes x
 ht:∀ k ∈ (qj wild b).items,Ht (qj wild b).nodes 11 k
theorem Oi (wild:Bool)(b:Bs):GOk wild b:=by
 obtain⟨h1,h2,h3⟩:=U4 wild 12 ⟨[],[],⟨b,[]⟩⟩ ⟨amL _,fun x d=>(nomatch d),fun k a=>(nomatch a)⟩;exact⟨h1,h2,h3⟩
theorem Sz.sized {T:Tr}{x:Nd}(h:Sz T.nodes x):Mist.sized T x=true:=by
 rcases h with h | ⟨h,a,c,p,q,e,b,d,j,k⟩
 ·unfold szL at h
  unfold Mist.sized;split at h
  ·cases h
  rename_i i
  rw [if_neg i];exact h
 ·unfold Mist.sized;rw [if_pos h,e];have f:(nd T a.toNat)=p:=by unfold nd;rw [amJ,b];rfl
  have g:(nd T c.toNat)=q:=by unfold nd;rw [amJ,d];rfl
  show within ((nd T c.toNat).n - (nd T a.toNat).n+1) 1 12=true
  rw [f,g];unfold within;rw [amU,decide_eq_true_iff,decide_eq_true_iff];omega
theorem Sz.strip {ns:List Nd}{x:Nd}(h:Sz (ns.map strip) (strip x)):Sz ns x:=by
 rcases h with h | ⟨h,a,c,p,q,e,b,d,f⟩
 ·exact .inl h
 ·rw [List.getElem?_map] at b d
  obtain⟨j,g,rfl⟩:=Option.map_eq_some_iff.1 b;obtain⟨k,i,rfl⟩:=Option.map_eq_some_iff.1 d;exact .inr ⟨h,a,c,j,k,e,g,i,f⟩
theorem Ht.strip {ns:List Nd}:∀ {b:Nat} {i:Int},Ht (ns.map strip) b i→Ht ns b i
 | 0,_,h=>h
 | b+1,i,⟨h0,x,hx,hk⟩=>by
  rw [List.getElem?_map] at hx
  obtain⟨y,f,rfl⟩:=Option.map_eq_some_iff.1 hx;exact⟨h0,y,f,fun k a=>Ht.strip (hk k a)⟩
end Mist
namespace Mist
structure Sg (ns0:List Nd) (p:Nat × Bool→Bool) (qs:List Int) (ns:List Nd):Prop where
 ok:mE ns
 wf:Wf ns
 more:∃ t,ns=ns0 ++ t
 fo:Fo ns ns0.length ns.length qs
 all:∀ a ∈ qs,p (lg ns a)=true
section
variable {ns0 ns ns':List Nd} {p q r:Nat × Bool→Bool} {qs bs:List Int}
theorem Sg.nil (b:mE ns)(c:Wf ns):Sg ns p [] ns:=⟨b,c,⟨[],by simp⟩,.nil _,fun a h=>nomatch h⟩
theorem Sg.imp (g:Sg ns0 p qs ns)(h:∀ x,p x=true→q x=true):Sg ns0 q qs ns:=⟨g.ok,g.wf,g.more,g.fo,fun a b=>h _ (g.all a b)⟩
theorem Sg.put {n:Nd}(g:Sg ns0 p n.kids ns)(e:vw ns n)(f:q (n.kind,decide (n.n < 0))=true):Sg ns0 q [(ns.length:Int)] (ns ++ [n]):=by
 have hi:Ids n.kids ns.length:=fun c b=>by have:=g.fo.ids c b;omega
 have d:(ns ++ [n])[ns.length]? = some n:=by simp
 obtain⟨t,i⟩:=g.more
 refine⟨g.ok.add g.wf e hi,g.wf.add hi,⟨t ++ [n],by rw [i,List.append_assoc]⟩,?_,fun a h=>?_⟩
 ·rw [amQ,amV];exact Fo.one (g.fo.mono _) d
 ·rw [List.mem_singleton.1 h];unfold lg
  simpa [amJ] using f
theorem Sg.join (g:Sg ns0 p qs ns)(h:Sg ns p bs ns'):Sg ns0 p (qs ++ bs) ns':=by
 obtain⟨t,c⟩:=g.more;obtain⟨u,d⟩:=h.more
 refine⟨h.ok,h.wf,⟨t ++ u,by rw [d,c,List.append_assoc]⟩,(g.fo.more h.more).append h.fo,fun a b=>?_⟩
 rcases List.mem_append.1 b with b | b
 ·exact yE g.fo (amL _) g.all h.more a b
 ·exact h.all a b
end
theorem Sg.end_ {s a:Gs}{I:eO}{n:Nd}{p q:Nat × Bool→Bool}{ns:List Nd}(g:Sg s.ns p n.kids ns)(e:a.ns=ns)(b:vw ns n)(c:q (n.kind,decide (n.n < 0))=true):Sg s.ns q [(d9 I a n).ix] (d9 I a n).st.ns:=by
 subst e;exact g.put b c
theorem okM {ns:List Nd}(K:Nat)(x:Bs)(N:Int)(ks:List Int)(h1:known K=true)(c:(iM K == isName x)=true)(a:(iM K || x.isEmpty)=true)(b:kH ⟨K,x,N,ks,0⟩=true)(h5:gL ⟨K,x,N,ks,0⟩=true)(h7:uP ⟨K,x,N,ks,0⟩ 0 (ks.map (lg ns))=true):vw ns ⟨K,x,N,ks,0⟩:=by
 unfold known at h1
 unfold vw okB;have h6:within 0 0 2000=true:=rfl;simp only [h1,c,a,b,h5,h6,h7,Bool.and_self]
theorem akh {n:Nd}(a:n.kind ≠ 24∧n.kind ≠ 41∧n.kind ≠ 34∧n.kind ≠ 33∧n.kind ≠ 40∧n.kind ≠ 42)(i:Nat)(q:Nat × Bool)(b:pE q=true):yD n i q=true:=by
 unfold pE at b
 unfold yD ku;simp only [amU] at b
 simp only [a.1,a.2.1,a.2.2.1,a.2.2.2.1,a.2.2.2.2.1,a.2.2.2.2.2,if_false,b.1,Bool.true_and,or_self]
 have:=b.2
 revert this
 cases (q.1 == 1) <;> cases q.2 <;> simp
theorem O_ {ns:List Nd}(K:Nat)(x:Bs)(N:Int)(ks:List Int)(c:K ≠ 24∧K ≠ 41∧K ≠ 34∧K ≠ 33∧K ≠ 40∧K ≠ 42)(h1:known K=true)(b:(iM K == isName x)=true∧(iM K || x.isEmpty)=true)(e:kH ⟨K,x,N,ks,0⟩=true)(h5:gL ⟨K,x,N,ks,0⟩=true)(d:∀ a ∈ ks,pE (lg ns a)=true):vw ns ⟨K,x,N,ks,0⟩ :=
 okM K x N ks h1 b.1 b.2 e h5 (qF (p:=pE) (akh c) ks 0 d)
theorem abS (b:Nat):isName (dD b)=true:=by
 have:∀ g ∈ pG,isName g=true:=by decide
 exact this _ (Km b)
theorem nmY {K:Nat}(b:Nat)(h:iM K=true):(iM K == isName (dD b))=true∧(iM K || (dD b).isEmpty)=true:=by rw [abS,h];exact⟨rfl,rfl⟩
theorem Vp {K:Nat}{x:Bs}(a:isName x=true)(h:iM K=true):(iM K == isName x)=true∧(iM K || x.isEmpty)=true:=by rw [a,h];exact⟨rfl,rfl⟩
theorem nK1 {n:Int}{ks:List Int}(h0:-9999≤n)(h1:n≤9999):gL ⟨1,[],n,ks,0⟩=true:=by simp [gL,within];omega
theorem nK2 {n:Int}{ks:List Int}(h0:0≤n)(h1:n≤1):gL ⟨2,[],n,ks,0⟩=true:=by simp [gL,within];omega
theorem akq {n:Int}{ks:List Int}(h0:1≤n)(h1:n≤8):gL ⟨46,[],n,ks,0⟩=true:=by simp [gL,within];omega
theorem Pt (wild:Bool)(E:Gs→Gr):∀ (m:Nat) (r:Gl),(jw wild E m r).ix.length=r.ix.length+m
 | 0,r=>rfl
 | m+1,r=>by
  rw [jw,Pt wild E m]
  show (r.ix ++ [_]).length+m=_
  rw [amQ];simp only [amV];omega
theorem Vm (b:Nat)(e:b < 60)(s:Gs)(c:mE s.ns)(d:Wf s.ns):Sg s.ns pE [(nA b s).ix] (nA b s).st.ns:=by
 unfold nA;split
 ·rename_i h
  refine Sg.end_ (p:=pE) (Sg.nil c d) rfl (O_ 1 [] _ [] (by decide) (by decide) (iV (by decide)) rfl (nK1 (by omega) (by omega)) (fun a h=>nomatch h)) ?_
  ·show (iT 1 && !(1 == 1 && decide (((b * 7:Nat):Int) < 0)))=true
   rw [amX (by omega)];rfl
 split
 ·exact Sg.end_ (p:=pE) (Sg.nil c d) rfl (O_ 2 [] _ [] (by decide) (by decide) (iV (by decide)) rfl (nK2 (by omega) (by omega)) (fun a h=>nomatch h)) rfl
 ·exact Sg.end_ (p:=pE) (Sg.nil c d) rfl (O_ 3 _ _ [] (by decide) (by decide) (nmY b (by decide)) rfl rfl (fun a h=>nomatch h)) rfl
section
variable (wild:Bool) {E:Gs→Gr} (h:∀ s:Gs,mE s.ns→Wf s.ns→Sg s.ns pE [(E s).ix] (E s).st.ns)
include h
theorem AJ {ns0:List Nd}:∀ (m:Nat) (r:Gl),Sg ns0 pE r.ix r.st.ns→Sg ns0 pE (eP wild E m r).ix (eP wild E m r).st.ns
 | 0,r,g=>g
 | m+1,r,g=>by
  rw [eP];simp only
  split
  ·exact AJ m _ (g.join (h r.st g.ok g.wf))
  ·have e:=aO wild r.st;have h1:=h (aM wild r.st) (by rw [e];exact g.ok) (by rw [e];exact g.wf);rw [e] at h1
   exact AJ m _ (g.join h1)
theorem VG {ns0:List Nd}:∀ (m:Nat) (r:Gl),Sg ns0 (fun q=>q.1 == 25) r.ix r.st.ns→Sg ns0 (fun q=>q.1 == 25) (jw wild E m r).ix (jw wild E m r).st.ns
 | 0,r,g=>g
 | m+1,r,g=>by
  rw [jw];obtain⟨b,c⟩:∃ b,b=if r.ix=[] then r.st else aM wild r.st:=⟨_,rfl⟩
  have a:b.tl.ns=r.st.ns:=by rw [c];split;rfl;exact aO wild r.st
  simp only [← c];have h1:=h b.tl (by rw [a];exact g.ok) (by rw [a];exact g.wf);rw [a] at h1
  exact VG m _ (g.join (h1.put (n:=⟨25,dD b.nx,0,[(E b.tl).ix],0⟩) (O_ 25 _ 0 _ (by decide) (by decide) (nmY _ (by decide)) rfl rfl h1.all) rfl))
theorem aiQ (b:Nat)(s:Gs)(i:mE s.ns)(j:Wf s.ns):Sg s.ns pE [(Ir wild E b s).ix] (Ir wild E b s).st.ns:=by
 unfold Ir;have h1:=h s i j;split
 ·unfold Gx;simp only
  refine Sg.end_ (p:=pE) (ns:=(E s).st.ns) h1 (by rw [eH,aO]) ?_ ?_
  ·split
   ·exact O_ 5 [] 0 _ (by decide) (by decide) (iV (by decide)) rfl rfl h1.all
   ·exact O_ 4 [] 0 _ (by decide) (by decide) (iV (by decide)) rfl rfl h1.all
  ·split <;> rfl
 ·unfold Nw;simp only
  have h2:=h1.join (h (E s).st h1.ok h1.wf);obtain⟨a,c,d,e,f,g⟩:=ab7 (K:=6+b % 13) (by omega);exact Sg.end_ (p:=pE) (ns:=(E (E s).st).st.ns) h2 (by rw [eH,aO,aO]) (O_ _ [] 0 _ a c (iV d) (e _ _) (f _) h2.all) g
theorem adQ (b:Nat)(s:Gs)(c:mE s.ns)(d:Wf s.ns):Sg s.ns pE [(jd wild E b s).ix] (jd wild E b s).st.ns:=by
 unfold jd;simp only
 have a:=abS s.nx
 generalize j:s.tl=s'
 have f:s'.ns=s.ns:=by rw [← j];rfl
 generalize dD s.nx=x at a ⊢
 rw [← f] at c d ⊢
 have h1:=h s' c d;have h2:=h1.join (h (E s').st h1.ok h1.wf);have h3:=h2.join (h (E (E s').st).st h2.ok h2.wf)
 have em:∀ (z:Gs),z.ns=s'.ns→Sg s'.ns pE (Gl.ix ⟨[],[],z⟩) (Gl.st ⟨[],[],z⟩).ns:=fun z k=>by
  show Sg s'.ns pE [] z.ns
  rw [k];exact Sg.nil c d
 split
 ·unfold ifG;simp only
  exact Sg.end_ (p:=pE) (ns:=(E (E (E s').st).st).st.ns) h3 (by simp only [eH,aO]) (O_ 19 [] 0 _ (by decide) (by decide) (iV (by decide)) rfl rfl h3.all) rfl
 split
 ·unfold OU;simp only
  exact Sg.end_ (p:=pE) (ns:=(E (E s').st).st.ns) h2 (by simp only [eH,aO]) (O_ 20 x 0 _ (by decide) (by decide) (Vp a (by decide)) rfl rfl h2.all) rfl
 split
 ·unfold D5;simp only
  have g:=AJ wild h (s'.nx % 4) ⟨[],[],s'.tl⟩ (em s'.tl rfl);exact Sg.end_ (p:=pE) g (aO wild _) (O_ 21 x 0 _ (by decide) (by decide) (Vp a (by decide)) rfl rfl g.all) rfl
 split
 ·unfold vO;simp only
  exact Sg.end_ (p:=pE) h1 (aO wild _) (O_ 22 x 0 _ (by decide) (by decide) (Vp a (by decide)) rfl rfl h1.all) rfl
 split
 ·unfold vQ;simp only
  exact Sg.end_ (p:=pE) h2 (aO wild _) (O_ 23 [] 0 _ (by decide) (by decide) (iV (by decide)) rfl rfl h2.all) rfl
 split
 ·unfold vE;simp only
  have g:=AJ wild h (1+s'.nx % 4) ⟨[],[],s'.tl⟩ (em s'.tl rfl);have l:=tH wild E (1+s'.nx % 4) ⟨[],[],s'.tl⟩;refine Sg.end_ (p:=pE) g (aO wild _) (O_ 26 [] 0 _ (by decide) (by decide) (iV (by decide)) ?_ rfl g.all) rfl
  show decide (1≤_)=true
  rw [decide_eq_true_iff,l];omega
 ·unfold PG;simp only
  have g:=VG wild h (1+b % 3) ⟨[],[],s'⟩ (Sg.nil c d);refine Sg.end_ g (aO wild _) (okM 24 x 0 _ (by decide) (Vp a (by decide)).1 (Vp a (by decide)).2 ?_ rfl (qF (p:=fun q=>q.1 == 25) (fun i q e=>?_) _ 0 g.all)) rfl
  ·show decide (1≤_)=true
   rw [decide_eq_true_iff,Pt]
   show 1≤0+(1+b % 3)
   omega
  ·have e:q.1=25:=by simpa using e
   unfold yD ku;simp [e]
end
theorem wD (wild:Bool):∀ (d:Nat) (s:Gs),mE s.ns→Wf s.ns→Sg s.ns pE [(dx wild d s).ix] (dx wild d s).st.ns
 | 0,s,ha,hw=>Vm (s.nx % 60) (Nat.mod_lt _ (by decide)) s.tl ha hw
 | d+1,s,ha,hw=>by
  rw [dx];split
  ·rename_i h;exact Vm s.nx h s.tl ha hw
  split
  ·exact aiQ wild (wD wild d) s.nx s.tl ha hw
  ·exact adQ wild (wD wild d) s.nx s.tl ha hw
def pT (q:Nat × Bool):Bool:=kg q.1
theorem aix {n:Nd}(b:n.kind=34∨n.kind=33)(i:Nat)(q:Nat × Bool)(a:pT q=true):yD n i q=true:=by
 have h24:¬ n.kind=24:=by omega
 have h41:¬ n.kind=41:=by omega
 have h1:=Qd a;unfold yD ku;unfold pT at a
 simp only [h24,h41,if_false,if_pos b,a,h1];rfl
theorem Vi (wild:Bool):∀ (d:Nat) (s:Gs),mE s.ns→Wf s.ns→Sg s.ns pT [(dG wild d s).ix] (dG wild d s).st.ns:=by
 have a:∀ (s:Gs) (p:Bs × Nat × Bs) (K:Nat) (x:Bs),mE s.ns→Wf s.ns→known K=true→(iM K == isName x)=true∧(iM K || x.isEmpty)=true→kH ⟨K,x,0,[],0⟩=true→gL ⟨K,x,0,[],0⟩=true→pT (K,false)=true→Sg s.ns pT [(d9 [p] s.tl ⟨K,x,0,[],0⟩).ix] (d9 [p] s.tl ⟨K,x,0,[],0⟩).st.ns:=fun s p K x b c h1 e f h5 i =>
  Sg.end_ (p:=pT) (Sg.nil b c) rfl (okM K x 0 [] h1 e.1 e.2 f h5 rfl) i
 intro d
 induction d with
 | zero =>
  intro s b c;rw [dG];split
  ·exact a s _ 30 [] b c (by decide) (iV (by decide)) rfl rfl rfl
  split
  ·exact a s _ 31 [] b c (by decide) (iV (by decide)) rfl rfl rfl
  ·exact a s _ 32 _ b c (by decide) (nmY _ (by decide)) rfl rfl rfl
 | succ d j =>
  intro s b c;rw [dG];split
  ·exact a s _ 30 [] b c (by decide) (iV (by decide)) rfl rfl rfl
  split
  ·exact a s _ 31 [] b c (by decide) (iV (by decide)) rfl rfl rfl
  split
  ·exact a s _ 32 _ b c (by decide) (nmY _ (by decide)) rfl rfl rfl
  ·simp only
   have g:=j s.tl b c;exact Sg.end_ (s:=s) (p:=pT) g (by rw [aO];rfl) (okM 33 [] _ _ (by decide) (iV (by decide)).1 (iV (by decide)).2 rfl rfl (qF (p:=pT) (aix (.inr rfl)) _ 0 g.all)) rfl
theorem DL (wild:Bool){ns0:List Nd}:∀ (m:Nat) (r:Gl),Sg ns0 (fun q=>q.1 == 34) r.ix r.st.ns→Sg ns0 (fun q=>q.1 == 34) (dL wild m r).ix (dL wild m r).st.ns
 | 0,r,g=>g
 | m+1,r,g=>by
  rw [dL];obtain⟨c,b⟩:∃ c,c=if r.ix=[] then r.st else aM wild r.st:=⟨_,rfl⟩
  have a:c.tl.ns=r.st.ns:=by rw [b];split;rfl;exact aO wild r.st
  simp only [← b];have h1:=Vi wild 2 c.tl (by rw [a];exact g.ok) (by rw [a];exact g.wf);rw [a] at h1
  refine DL wild m _ (g.join ?_);exact Sg.end_ (I:=[]) (s:=r.st) h1 (aO wild _) (okM 34 _ 0 _ (by decide) (nmY _ (by decide)).1 (nmY _ (by decide)).2 rfl rfl (qF (p:=pT) (aix (.inl rfl)) _ 0 h1.all)) rfl
def p1 (q:Nat × Bool):Bool:=q.1 == 1
theorem JN (n:Int)(h0:-9999≤n)(h1:n≤9999)(s:Gs)(a:mE s.ns)(b:Wf s.ns):Sg s.ns p1 [(eT n s).ix] (eT n s).st.ns:=by
 exact Sg.end_ (p:=p1) (Sg.nil a b) rfl (okM 1 [] n [] (by decide) (iV (by decide)).1 (iV (by decide)).2 rfl (nK1 h0 h1) rfl) rfl
theorem aef (wild:Bool)(s:Gs)(y:mE s.ns)(A:Wf s.ns):Sg s.ns pI [(gI wild s).ix] (gI wild s).st.ns:=by
 unfold gI;simp only
 have j:=abS s.tl.nx
 generalize R:s.tl.tl=c
 have J:c.ns=s.ns:=by rw [← R];rfl
 generalize dD s.tl.nx=x at j ⊢
 rw [← J] at y A ⊢
 split
 ·unfold rH;simp only
  have P:((c.nx % 30:Nat):Int) - 15≤14:=by omega
  have F:-15≤((c.nx % 30:Nat):Int) - 15:=by omega
  generalize ((c.nx % 30:Nat):Int) - 15=low at P F ⊢
  have e:=JN low (by omega) (by omega) c.tl y A;have N:(eT low c.tl).st.nx % 12 < 12:=Nat.mod_lt _ (by decide)
  generalize (eT low c.tl).st.nx % 12=k at N ⊢
  have l:=e.join (JN (low+(k:Int)) (by omega) (by omega) (eT low c.tl).st.tl e.ok e.wf);refine Sg.end_ (s:=c) l (by rw [aO,aO,aO]) (okM 40 x 0 _ (by decide) (Vp j (by decide)).1 (Vp j (by decide)).2 rfl rfl (qF (p:=p1) (fun i q w=>?_) _ 0 l.all)) rfl;have w:q.1=1:=by simpa [p1] using w
  unfold yD ku;simp [w]
 split
 ·unfold Ig;simp only
  have g:=DL wild (ns0:=c.ns) (1+c.nx % 6) ⟨[],[],c.tl⟩ (Sg.nil y A);refine Sg.end_ g rfl (okM 41 x 0 _ (by decide) (Vp j (by decide)).1 (Vp j (by decide)).2 ?_ rfl (qF (p:=fun q=>q.1 == 34) (fun i q w=>?_) _ 0 g.all)) rfl
  ·show decide (1≤_)=true
   rw [decide_eq_true_iff,wQ]
   show 1≤0+(1+c.nx % 6)
   omega
  ·have w:q.1=34:=by simpa using w
   unfold yD ku;simp [w]
 split
 ·unfold IL;simp only
  have g:=DL wild (ns0:=c.ns) (c.nx % 5) ⟨[],[],c.tl⟩ (Sg.nil y A)
  generalize dL wild (c.nx % 5) ⟨[],[],c.tl⟩=r at g ⊢
  have e:=Vi wild 2 r.st g.ok g.wf
  generalize dG wild 2 r.st=t at e ⊢
  obtain⟨n,Q⟩:∃ n,n=rX t.st:=⟨_,rfl⟩;obtain⟨d,f⟩:∃ d,d=if 0 < n then aM wild t.st.tl else t.st.tl:=⟨_,rfl⟩
  have B:d.ns=t.st.ns:=by rw [f];split;(rw [aO];rfl);rfl
  rw [← Q,← f];have l:=wD wild 4 d (by rw [B];exact e.ok) (by rw [B];exact e.wf);rw [B] at l
  generalize dx wild 4 d=b at l ⊢
  have G:Sg c.ns (fun _=>true) (r.ix ++ [t.ix] ++ [b.ix]) b.st.ns:=((g.imp fun _ _=>rfl).join (e.imp fun _ _=>rfl)).join (l.imp fun _ _=>rfl);have M:r.ix ++ [t.ix,b.ix]=r.ix ++ [t.ix] ++ [b.ix]:=by simp
  have L:∃ u,b.st.ns=r.st.ns ++ u:=by
   obtain⟨u,S⟩:=e.more;obtain⟨v,hv⟩:=l.more;exact⟨u ++ v,by rw [hv,S,List.append_assoc]⟩
  refine Sg.end_ (p:=fun _=>true) (ns:=b.st.ns) (by show Sg c.ns _ (r.ix ++ [t.ix,b.ix]) _;rw [M];exact G) (by rw [aO,aO,aO]) (okM 42 x _ _ (by decide) (Vp j (by decide)).1 (Vp j (by decide)).2 ?_ ?_ ?_) rfl
  ·show decide (2≤(r.ix ++ [t.ix,b.ix]).length)=true
   rw [decide_eq_true_iff,amQ]
   show 2≤r.ix.length+2
   omega
  ·show decide (0≤((n:Nat):Int))=true
   rw [decide_eq_true_iff];omega
  ·rw [M,List.map_append,List.map_append];refine JF rfl _ 0 _ _ ?_ ?_ ?_ ?_
   ·show 0+(r.ix.map (lg b.st.ns)).length+2=(r.ix ++ [t.ix] ++ [b.ix]).length
    simp only [List.length_map,amQ,amV];omega
   ·intro q w;obtain⟨a,D,rfl⟩:=List.mem_map.1 w;exact yE (p:=fun q=>q.1 == 34) g.fo (amL _) g.all L a D
   ·exact yE (p:=pT) e.fo (amL _) e.all l.more t.ix (List.mem_singleton.2 rfl)
   ·exact l.all b.ix (List.mem_singleton.2 rfl)
 split
 ·unfold qG;simp only
  have g:=wD wild 4 c y A;exact Sg.end_ (p:=pE) g (aO wild _) (O_ 43 x 0 _ (by decide) (by decide) (Vp j (by decide)) rfl rfl g.all) rfl
 split
 ·unfold qJ;simp only
  have g:=wD wild 4 c y A;exact Sg.end_ (p:=pE) g (aO wild _) (O_ 44 x 0 _ (by decide) (by decide) (Vp j (by decide)) rfl rfl g.all) rfl
 split
 ·unfold qN;exact Sg.end_ (p:=pE) (Sg.nil y A) (aO wild c) (O_ 45 x 0 [] (by decide) (by decide) (Vp j (by decide)) rfl rfl (fun a h=>nomatch h)) rfl
 ·unfold sw;simp only
  have H:1≤1+c.nx % 8:=by omega
  have I:1+c.nx % 8≤8:=by omega
  generalize 1+c.nx % 8=q at H I ⊢
  obtain⟨m,C⟩:∃ m,m=if q=7 then 0 else if q=8 then 1+c.tl.nx % 4 else 1:=⟨_,rfl⟩
  obtain⟨d,f⟩:∃ d,d=if q=8 then c.tl.tl else c.tl:=⟨_,rfl⟩
  have B:d.ns=c.ns:=by rw [f];split <;> rfl
  rw [← C,← f];have g:=AJ wild (wD wild 3) (ns0:=c.ns) m ⟨[],[],d⟩ (by show Sg c.ns pE [] d.ns;rw [B];exact Sg.nil y A);have K:=tH wild (dx wild 3) m ⟨[],[],d⟩;have K:(eP wild (dx wild 3) m ⟨[],[],d⟩).ix.length=m:=by rw [K];exact Nat.zero_add m
  refine Sg.end_ (p:=pE) g (aO wild _) (O_ 46 [] _ _ (by decide) (by decide) (iV (by decide)) ?_ (akq (by omega) (by omega)) g.all) rfl
  ·show (if ((q:Nat):Int)=7 then (_:Nat) == 0 else if ((q:Nat):Int)=8 then decide (1≤_) else _ == 1)=true
   rw [K];by_cases h7:q=7
   ·rw [if_pos (by omega),C,if_pos h7];rfl
   rw [if_neg (by omega)];by_cases h8:q=8
   ·rw [if_pos (by omega),C,if_neg h7,if_pos h8,decide_eq_true_iff];omega
   ·rw [if_neg (by omega),C,if_neg h7,if_neg h8];rfl
theorem U5 (wild:Bool):∀ (m:Nat) (r:Gl),Sg [] pI r.ix r.st.ns→Sg [] pI (lF wild m r).ix (lF wild m r).st.ns
 | 0,r,g=>g
 | m+1,r,g=>by
  rw [lF];split
  ·exact g
  simp only
  have h1:=aef wild r.st g.ok g.wf;refine U5 wild m _ (g.join ?_)
  show Sg r.st.ns pI [(gI wild r.st).ix] (aM wild (gI wild r.st).st).ns
  rw [aO];exact h1
theorem aa0 (wild:Bool)(b:Bs):Sg [] pI (grown wild b).ix (grown wild b).st.ns:=U5 wild 12 ⟨[],[],⟨b,[]⟩⟩ (Sg.nil (fun i n h=>by simp at h) (fun i n h=>by simp at h))
theorem Oh (wild:Bool):∀ (m:Nat) (r:Gl),(lF wild m r).ix.length≤r.ix.length+m
 | 0,r=>amL _
 | m+1,r=>by
  rw [lF];split
  ·omega
  ·have:=Oh wild m ⟨r.pc ++ (if r.ix=[] then (iF wild r.st).pc else eO.on [10] (iF wild r.st).pc),r.ix ++ [(iF wild r.st).ix],(iF wild r.st).st⟩
   simp only [amQ,amV] at this
   simp only
   omega
end Mist
namespace Mist
theorem JG {n:Nd}:∀ (qs:List (Nat × Bool)) (i:Nat),uP n i qs=true→∀ j q,qs[j]? = some q→yD n (i+j) q=true
 | [],_,_,j,q,h=>by simp at h
 | a :: r,i,hk,0,q,h=>by
  obtain rfl:a=q:=by simpa using h
  rw [uP,amU] at hk
  exact hk.1
 | a :: r,i,hk,j+1,q,h=>by
  rw [uP,amU] at hk
  have:=JG r (i+1) hk.2 j q (by simpa using h)
  rwa [show i+1+j=i+(j+1) by omega] at this
theorem PO {T:Tr}{i:Nat}{x:Nd}(c:T.nodes[i]? = some x)(h:vw T.nodes x):qO T i=true:=by
 have e:=mU c;unfold vw okB at h
 simp only [amU] at h
 obtain⟨⟨⟨⟨⟨⟨h1,h2⟩,h3⟩,h4⟩,h5⟩,h6⟩,h7⟩:=h;unfold qO;rw [e];simp only [amU]
 refine⟨⟨⟨⟨⟨⟨h1,h2⟩,h3⟩,h4⟩,h5⟩,h6⟩,?_⟩
 rw [amT];intro j a;rw [List.mem_range] at a
 have b:(x.kids.map (lg T.nodes))[j]? = some (lg T.nodes (x.kids.getD j 0)):=by
  rw [List.getElem?_map,amF a,amJ,amF a];rfl
 have:=JG _ 0 h7 j _ b
 rw [Nat.zero_add] at this
 unfold yD lg at this
 exact this
theorem aeO {T:Tr}(h:∀ a ∈ T.items,pI (lg T.nodes a)=true):∀ c ∈ T.items,fM (nd T c.toNat).kind=true:=h
theorem LM {T:Tr}(b:mE T.nodes)(hF:Fo T.nodes 0 T.nodes.length T.items)(c:∀ a ∈ T.items,pI (lg T.nodes a)=true):N_ T=true :=
 (Dk T).2 ⟨⟨hF,aeO c⟩,fun _ hi=>PO (AP hi) (b _ _ (AP hi))⟩
end Mist
namespace Go.Proofs.YtalghggmkojblaaGreatDoor
open Go.RowKit Mist
theorem Ta {K:Nat}(h:Mist.known K=true):K < 256:=by
 by_cases a:K < 256
 ·exact a
 ·exfalso
  unfold Mist.known iT kg fM at h
  simp at h
  omega
theorem mW {a lo hi:Int}(h:within a lo hi=true):lo≤a∧a≤hi:=by simpa [within] using h
theorem Tq {T:Tr}(w:mE T.nodes)(y:Wf T.nodes)(hS:∀ x ∈ T.nodes,Mist.sized T x=true)(B:T.nodes.length≤1000):FL T.nodes:=by
 intro x t;obtain⟨i,hi,l⟩:=List.getElem_of_mem t;have g:T.nodes[i]? = some x:=by rw [← l];exact amF hi
 have d:=w i x g;unfold vw okB at d
 simp only [amU] at d
 obtain⟨⟨⟨⟨⟨⟨h1,h2⟩,h3⟩,h4⟩,h5⟩,h6⟩,h7⟩:=d;have f:=hS x t
 refine⟨Ta (by unfold Mist.known;exact h1),?_,?_,?_,?_⟩
 ·by_cases m:iM x.kind=true
  ·rw [m] at h2
   have h2:isName x.text=true:=(eq_of_beq h2).symm;unfold isName at h2
   have:=(abG x.text (by rw [eq_of_beq h2];decide)).1
   omega
  ·have h3:x.text.isEmpty=true:=by simpa [m] using h3
   have:x.text=[]:=List.isEmpty_iff.1 h3
   rw [this];simp
 ·by_cases u:x.kind=1
  ·have:=mW (by simpa [gL,u] using h5:within x.n (-9999) 9999=true);unfold pY kV;omega
  by_cases v:x.kind=2
  ·have:=mW (by simpa [gL,v] using h5:within x.n 0 1=true);unfold pY kV;omega
  by_cases e:x.kind=42
  ·have a:0≤x.n:=by simpa [gL,e] using h5
   have b:x.n≤8:=by
    unfold Mist.sized at f
    simp [e] at f
    exact f.2
   unfold pY kV;omega
  by_cases j:x.kind=33
  ·have:=mW (by unfold Mist.sized at f;simpa [j] using f:within x.n 1 6=true);unfold pY kV;omega
  by_cases k:x.kind=46
  ·have:=mW (by simpa [gL,k] using h5:within x.n 1 8=true);unfold pY kV;omega
  ·have:x.n=0:=by simpa [gL,u,v,e,j,k] using h5
   unfold pY kV;omega
 ·have:=mW h6;unfold pY kV;omega
 ·intro c A
  have:=y i x g c A
  unfold pY kV;omega
theorem YO {T:Tr}(h:¬ 0≤outT T):∀ x ∈ T.nodes,Mist.sized T x=true:=by
 have h2:=GL T;rw [amX h] at h2
 have h3:T.nodes.all (Mist.sized T)=true:=by simpa using h2.symm
 exact amT.1 h3
theorem LH {T:Tr}(h:(iH T).2=0):Mist.large T=false∧¬ 30 < sQ T∧¬ 0≤outT T:=by
 unfold iH at h
 split at h
 ·cases h
 ·rename_i h1
  split at h
  ·cases h
  ·rename_i h2
   exact⟨by simpa using fun h=>h1 (.inl h),fun h=>h1 (.inr h),h2⟩
theorem LJ {T:Tr}(c:mE T.nodes)(m:Wf T.nodes)(hF:Fo T.nodes 0 T.nodes.length T.items)(l:∀ a ∈ T.items,pI (lg T.nodes a)=true)(k:(iH T).2=0):fV T=0∧FL T.nodes:=by
 obtain⟨b,hd,f⟩:=LH k
 have e:T.nodes.length≤800:=by
  have:¬ 800 < T.nodes.length:=fun h=>by unfold Mist.large at b;rw [amW h] at b;simp at b
  omega
 have d:=Tq c m (YO f) (by omega);obtain⟨g,i,j⟩:=(Oa T (fun n t=>(d n t).num) (by omega)).2 (LM c hF l)
 refine⟨?_,d⟩
 unfold fV;rw [if_neg (by rw [b];decide),if_neg (by rw [g];decide),if_neg (by rw [i,j];simp),if_neg hd,if_neg f]
theorem JU (i:Int):∀ (ks P:List Int) (j:Nat),(∀ k ∈ ks,0≤k∧k < (P.length:Int))→(BU i ks P).getD j 0=if (j:Int) ∈ ks then i else P.getD j 0
 | [],P,j,_=>by simp [BU]
 | k :: r,P,j,h=>by
  rw [BU,JU i r _ j (fun x a=>by rw [List.length_set];exact h x (List.mem_cons_of_mem _ a)),Ab];have h0:=h k (List.mem_cons_self ..);by_cases h1:(j:Int) ∈ r
  ·rw [if_pos h1,if_pos (List.mem_cons_of_mem _ h1)]
  ·rw [if_neg h1];by_cases h2:k.toNat=j
   ·rw [if_pos ⟨h2,by omega⟩,if_pos (by rw [show (j:Int)=k by omega];exact List.mem_cons_self ..)]
   ·rw [if_neg (fun h=>h2 h.1),if_neg];intro h3;rcases List.mem_cons.1 h3 with h4 | h4
    ·omega
    ·exact h1 h4
theorem Fe {ns:List Nd}(d:Wf ns):∀ k,k≤ns.length→∀ j,j < k→((DJ ns k).getD j 0=-1∧∀ m x,m < k→ns[m]? = some x→(j:Int) ∉ x.kids)∨∃ m x,m < k∧ns[m]? = some x∧(j:Int) ∈ x.kids∧(DJ ns k).getD j 0=(m:Int)
 | 0,_,j,hj=>by omega
 | k+1,hk,j,hj=>by
  obtain⟨x,b⟩:∃ x,ns[k]? = some x:=⟨_,amF (by omega)⟩;have f:=d k x b
  have e:(DJ ns (k+1)).getD j 0=if (j:Int) ∈ x.kids then (k:Int) else ((DJ ns k).set k (-1)).getD j 0:=by
   rw [DJ,Vw,b];exact JU _ _ _ _ (fun c a=>by rw [List.length_set,GV];have:=f c a;omega)
  rw [e];by_cases h1:(j:Int) ∈ x.kids
  ·rw [if_pos h1];exact .inr ⟨k,x,by omega,b,h1,rfl⟩
  ·rw [if_neg h1,Ab];by_cases h2:k=j
   ·subst h2;rw [if_pos ⟨rfl,by rw [GV];omega⟩];refine .inl ⟨rfl,fun m y g hy a=>?_⟩
    have:=d m y hy _ a
    omega
   ·rw [if_neg (fun h=>h2 h.1)];rcases Fe d k (by omega) j (by omega) with ⟨h3,h4⟩ | ⟨m,y,h3,h4,h5,h6⟩
    ·refine .inl ⟨h3,fun m y g hy a=>?_⟩;rcases Nat.lt_or_ge m k with h7 | h7
     ·exact h4 m y h7 hy a
     ·obtain rfl:m=k:=by omega
      rw [b] at hy;cases hy
      exact h1 a
    ·exact .inr ⟨m,y,by omega,h4,h5,h6⟩
theorem JZ {ns:List Nd}{qs:List Int}(c:Wf ns)(e:Fo ns 0 ns.length qs){j m:Nat}{x:Nd}(a:ns[m]? = some x)(b:(j:Int) ∈ x.kids):(eD ns).getD j 0=(m:Int):=by
 have d:=(amG.1 a).1;have f:=c m x a _ b;rcases Fe c ns.length (amL _) j (by omega) with ⟨_,h4⟩ | ⟨g,y,h3,h4,h5,h6⟩
 ·exact absurd b (h4 m x d a)
 ·rw [Fo.GI e d h3 a h4 b h5];exact h6
theorem Vf {ns:List Nd}(a:Wf ns){j m:Nat}(b:j < ns.length)(h:(eD ns).getD j 0=(m:Int)):∃ x,ns[m]? = some x∧(j:Int) ∈ x.kids:=by
 rcases Fe a ns.length (amL _) j b with ⟨h3,_⟩ | ⟨c,y,h3,h4,h5,h6⟩
 ·unfold eD at h;omega
 ·have:c=m:=by unfold eD at h;omega
  subst this;exact⟨y,h4,h5⟩
theorem ae2 {ns:List Nd}{qs:List Int}(c:Wf ns)(a:Fo ns 0 ns.length qs){r:Nat}(b:(r:Int) ∈ qs):(eD ns).getD r 0=-1:=by
 have hi:=a.ids _ b;rcases Fe c ns.length (amL _) r (by omega) with ⟨h3,_⟩ | ⟨d,y,h3,h4,h5,h6⟩
 ·exact h3
 ·exact absurd b (a.apart d y (amN _) h3 h4 _ h5)
theorem Qe {P:List Int}(a:Zn P):∀ (f n:Nat),n < P.length→P.length≤n+f→upL P (f+1) (n:Int)=upL P f (n:Int)
 | 0,n,h1,h2=>by omega
 | f+1,n,h1,h2=>by
  rw [wu (f:=f+1) (n:=n),wu (f:=f) (n:=n)]
  congr 1
  rcases a n h1 with h | ⟨h3,h4⟩
  ·rw [h,Ii,Ii]
  ·obtain⟨m,b⟩:∃ m:Nat,P.getD n 0=(m:Int):=⟨(P.getD n 0).toNat,by omega⟩;rw [b];exact Qe a f m (by omega) (by omega)
def Qf (P:List Int)(n:Nat):List Nat:=upL P (P.length+1) (n:Int)
theorem Ij {P:List Int}{n:Nat}(h:P.getD n 0=-1):Qf P n=[n]:=by
 unfold Qf;rw [wu,h,Ii]
theorem Mi {P:List Int}(a:Zn P){n m:Nat}(h:P.getD n 0=(m:Int))(b:m < P.length):Qf P n=n :: Qf P m:=by
 unfold Qf;rw [wu (f:=P.length) (n:=n),h,Qe a P.length m b (by omega)]
theorem afc {P:List Int}{n:Nat}:0 < (Qf P n).length:=by
 unfold Qf;rw [wu];simp
theorem Jm (v:Nat):∀ (ks:List Int) (D:List Nat) (j:Nat),(∀ k ∈ ks,0≤k∧k < (D.length:Int))→(sP v ks D).getD j 0=if (j:Int) ∈ ks then v+1 else D.getD j 0
 | [],D,j,_=>by simp [sP]
 | k :: r,D,j,h=>by
  rw [sP,Jm v r _ j (fun x a=>by rw [List.length_set];exact h x (List.mem_cons_of_mem _ a)),sW];have h0:=h k (List.mem_cons_self ..);by_cases h1:(j:Int) ∈ r
  ·rw [if_pos h1,if_pos (List.mem_cons_of_mem _ h1)]
  ·rw [if_neg h1];by_cases h2:k.toNat=j
   ·rw [if_pos ⟨h2,by omega⟩,if_pos (by rw [show (j:Int)=k by omega];exact List.mem_cons_self ..)]
   ·rw [if_neg (fun h=>h2 h.1),if_neg];intro h3;rcases List.mem_cons.1 h3 with h4 | h4
    ·omega
    ·exact h1 h4
def ads (ns:List Nd)(k:Nat)(D:List Nat):Prop:=D.length=ns.length∧∀ j,j < ns.length→D.getD j 0=if k≤j∨(k:Int)≤(eD ns).getD j 0 then (Qf (eD ns) j).length else 0
theorem WG {ns:List Nd}{qs:List Int}(g:Wf ns)(v:Fo ns 0 ns.length qs){i:Nat}{D:List Nat}(hi:i < ns.length)(h:ads ns (i+1) D):ads ns i (rJ ns i D):=by
 obtain⟨t,d⟩:=Ae g;obtain⟨x,k⟩:∃ x,ns[i]? = some x:=⟨_,amF hi⟩;have l:=g i x k
 have b:∀ j,j < ns.length→(o7 i D).getD j 0=if j=i then (Qf (eD ns) i).length else D.getD j 0:=by
  intro j f;have a:=h.2 i hi;have m:=t i (by rw [d];exact hi);unfold o7;rcases m with h1 | ⟨h1,_⟩
  ·rw [if_neg (by omega)] at a
   rw [if_pos a,sW,Ij h1];by_cases h2:j=i
   ·rw [if_pos ⟨h2.symm,by rw [h.1];exact f⟩,if_pos h2];rfl
   ·rw [if_neg (fun h3=>h2 h3.1.symm),if_neg h2]
  ·rw [if_pos (by omega)] at a
   have:=afc (P:=eD ns) (n:=i)
   rw [if_neg (by omega)];by_cases h2:j=i
   ·subst h2;rw [if_pos rfl,a]
   ·rw [if_neg h2]
 refine⟨by rw [Jp];exact h.1,fun j f=>?_⟩
 have e:(rJ ns i D).getD j 0=if (j:Int) ∈ x.kids then (o7 i D).getD i 0+1 else (o7 i D).getD j 0:=by
  unfold rJ;rw [k];exact Jm _ _ _ _ (fun c u=>by rw [zS,h.1];have:=l c u;omega)
 rw [e];by_cases h1:(j:Int) ∈ x.kids
 ·have m:=JZ g v k h1;rw [if_pos h1,if_pos (.inr (by omega)),b i hi,if_pos rfl,Mi t m (by rw [d];exact hi)];rfl
 ·rw [if_neg h1,b j f];by_cases h2:j=i
  ·subst h2;rw [if_pos rfl,if_pos (.inl (amL _))]
  ·rw [if_neg h2,h.2 j f]
   have h3:(eD ns).getD j 0 ≠ (i:Int):=fun h9=>by
    obtain⟨y,hy,w⟩:=Vf g f h9;rw [k] at hy;cases hy
    exact h1 w
   by_cases h4:i+1≤j∨((i+1:Nat):Int)≤(eD ns).getD j 0
   ·rw [if_pos h4,if_pos (by omega)]
   ·rw [if_neg h4,if_neg (by omega)]
theorem NS {ns:List Nd}{qs:List Int}(a:Wf ns)(b:Fo ns 0 ns.length qs):∀ (k:Nat) (D:List Nat),k≤ns.length→ads ns k D→ads ns 0 (WH ns k D)
 | 0,_,_,h=>h
 | k+1,D,hk,h=>NS a b k _ (by omega) (WG a b (by omega) h)
theorem WI {ns:List Nd}{qs:List Int}(b:Wf ns)(d:Fo ns 0 ns.length qs){j:Nat}(e:j < ns.length):(kU ns).getD j 0=(Qf (eD ns) j).length:=by
 obtain⟨c,a⟩:=Ae b
 have h:=(NS b d ns.length (List.replicate ns.length 0) (amL _) ⟨by simp,fun i hi=>by
  have f:=c i (by rw [a];exact hi);rw [a] at f
  rw [if_neg (by omega),amJ,List.getElem?_replicate];simp [hi]⟩).2 j e
 rw [if_pos (.inl (amN _))] at h
 exact h
inductive Up (ns:List Nd):Nat→Nat→Prop
 | refl (i:Nat):Up ns i i
 | step {i j r:Nat} {x:Nd} (e:ns[j]? = some x) (h:(i:Int) ∈ x.kids) (k:Up ns j r):Up ns i r
theorem Up.more {ns:List Nd}{i r b:Nat}{n:Nd}(h:Up ns i r)(e:ns[b]? = some n)(k:(r:Int) ∈ n.kids):Up ns i b:=by
 induction h with
 | refl=>exact .step e k (.refl _)
 | step a c _ d=>exact .step a c (d k)
theorem ahX {ns:List Nd}{a b:Nat}{qs:List Int}(h:Fo ns a b qs):∀ i,a≤i→i < b→∃ (q r:Nat),qs[q]? = some (r:Int)∧i≤r∧(∀ (g:Nat) c,g < q→qs[g]? = some c→c < (i:Int))∧Up ns i r:=by
 induction h with
 | nil=>intro i h1 h2;omega
 | @snoc a m b qs n h k e ih jh =>
  intro i h1 h2;have f:(qs ++ [(b:Int)])[qs.length]? = some (b:Int):=by simp
  have d:m≤i→∀ (g:Nat) c,g < qs.length→(qs ++ [(b:Int)])[g]? = some c→c < (i:Int):=by
   intro y g c u j;rw [List.getElem?_append_left u] at j
   have:=h.ids c (amO j)
   omega
  rcases Nat.lt_or_ge i m with h3 | h3
  ·obtain⟨q,r,l,w,x,t⟩:=ih i h1 h3;have u:=(amG.1 l).1
   refine⟨q,r,by rw [List.getElem?_append_left u];exact l,w,fun g c v j=>?_,t⟩
   rw [List.getElem?_append_left (by omega)] at j
   exact x g c v j
  ·rcases Nat.lt_or_ge i b with h4 | h4
   ·obtain⟨q,r,l,w,x,t⟩:=jh i h3 h4;exact⟨qs.length,b,f,by omega,d h3,t.more e (amO l)⟩
   ·obtain rfl:i=b:=by omega
    exact⟨qs.length,i,f,amL _,d h3,.refl _⟩
theorem afd {ns:List Nd}{qs:List Int}(c:Wf ns)(f:Fo ns 0 ns.length qs){i r:Nat}(h:Up ns i r):(eD ns).getD r 0=-1→(Qf (eD ns) i).getLast? = some r:=by
 obtain⟨d,a⟩:=Ae c
 induction h with
 | refl=>intro b;rw [Ij b];rfl
 | @step i j r x e h k ih =>
  intro b;rw [Mi d (JZ c f e h) (by rw [a];exact (amG.1 e).1),List.getLast?_cons,ih b];rfl
theorem aeg {ns:List Nd}{qs:List Int}(d:Wf ns)(a:Fo ns 0 ns.length qs){i:Nat}(hi:i < ns.length):∃ (q r:Nat),qs[q]? = some (r:Int)∧i≤r∧(∀ (e:Nat) c,e < q→qs[e]? = some c→c < (i:Int))∧(Qf (eD ns) i).getLast? = some r:=by
 obtain⟨q,r,b,f,g,j⟩:=ahX a i (amN _) hi;exact⟨q,r,b,f,g,afd d a j (ae2 d a (amO b))⟩
theorem afJ {ns:List Nd}{qs:List Int}(b:Wf ns)(l:Fo ns 0 ns.length qs){B:Nat}(g:∀ k ∈ qs,Ht ns B k):∀ (f j:Nat),j < ns.length→ns.length≤j+f→(Qf (eD ns) j).length≤B∧Ht ns (B+1 - (Qf (eD ns) j).length) (j:Int)
 | 0,j,hj,hl=>by omega
 | f+1,j,hj,hl=>by
  obtain⟨i,v⟩:=Ae b;rcases i j (by omega) with C | ⟨h1,h2⟩
  ·have F:=Ij C;obtain⟨q,r,D,_,_,n⟩:=aeg b l hj;rw [F] at n ⊢
   obtain rfl:j=r:=by simpa using n
   have a:=g _ (amO D)
   cases B with
   | zero=>exact a.elim
   | succ B=>exact⟨by simp,by simpa using a⟩
  ·obtain⟨m,d⟩:∃ m:Nat,(eD ns).getD j 0=(m:Int):=⟨((eD ns).getD j 0).toNat,by omega⟩;rw [d] at h1 h2
   obtain⟨x,G,A⟩:=Vf b hj d;obtain⟨H,t⟩:=afJ b l g f m (by omega) (by omega);rw [Mi i d (by omega),List.length_cons];obtain⟨c,w⟩:∃ c,B+1 - (Qf (eD ns) m).length=c+1:=⟨B - (Qf (eD ns) m).length,by omega⟩;rw [w] at t
   obtain⟨_,y,hy,e⟩:=t;rw [amS,G] at hy
   cases hy;have a:=e _ A;have u:B+1 - ((Qf (eD ns) m).length+1)=c:=by omega
   rw [u]
   cases c with
   | zero=>exact a.elim
   | succ c=>exact⟨by omega,a⟩
theorem abR:∀ (l:List Nat) (M:Nat),l ≠ []→(∀ d ∈ l,d≤M)→Lib.maxOf (l.map fun (d:Nat)=>(d:Int))≤(M:Int):=by
 have b:∀ (l:List Nat) (a M:Nat),a≤M→(∀ d ∈ l,d≤M)→(l.map fun (d:Nat)=>(d:Int)).foldl max (a:Int)≤(M:Int):=by
  intro l
  induction l with
  | nil=>intro a M c _;show (a:Int)≤_;omega
  | cons d r i =>
   intro a M c hd;have f:=hd d (List.mem_cons_self ..);have e:max (a:Int) (d:Int)=((max a d:Nat):Int):=by omega
   show (r.map fun (d:Nat)=>(d:Int)).foldl max (max (a:Int) (d:Int))≤_
   rw [e];exact i (max a d) M (by omega) (fun x g=>hd x (List.mem_cons_of_mem _ g))
 intro l M h hd
 cases l with
 | nil=>exact absurd rfl h
 | cons a r =>
  show ((a :: r).map fun (d:Nat)=>(d:Int)).foldl max (a:Int)≤_
  exact b (a :: r) a M (hd a (List.mem_cons_self ..)) hd
theorem adR {T:Tr}(b:Wf T.nodes)(c:Fo T.nodes 0 T.nodes.length T.items){B:Nat}(f:∀ k ∈ T.items,Ht T.nodes B k):sQ T≤(B:Int):=by
 unfold sQ nu;split
 ·omega
 ·rename_i h0
  have a:(kU T.nodes).length=T.nodes.length:=by unfold kU;rw [FV,List.length_replicate]
  refine abR _ _ (fun e=>by rw [e] at a;exact h0 a.symm) (fun d hd=>?_);obtain⟨j,g,rfl⟩:=List.getElem_of_mem hd
  have:=WI b c (j:=j) (by omega)
  rw [amJ,amF g,Option.getD_some] at this
  rw [this];exact (afJ b c f T.nodes.length j (by omega) (by omega)).1
structure dH (T:Tr):Prop where
 ok:mE T.nodes
 wf:Wf T.nodes
 fo:Fo T.nodes 0 T.nodes.length T.items
 it:∀ a ∈ T.items,pI (lg T.nodes a)=true
 sz:∀ x ∈ T.nodes,Mist.sized T x=true
 ht:∀ k ∈ T.items,Ht T.nodes 11 k
 few:T.nodes.length≤800
 itf:T.items.length≤12
section
variable {T:Tr} (h:dH T)
include h
theorem dH.large:Mist.large T=false:=by
 have h1:=h.few;have h2:=h.itf;unfold Mist.large;rw [amX (by omega),amX (by omega)];rfl
theorem dH.o:¬ 0≤outT T:=by
 have h1:=GL T;rw [amT.2 h.sz] at h1
 simpa using h1
theorem dH.parsed:iH T=(0,0):=by
 have hd:=adR h.wf h.fo h.ht;unfold iH;rw [if_neg (by rintro (e | e);(rw [h.large] at e;cases e);omega),if_neg h.o]
theorem dH.check:fV T=0∧FL T.nodes:=LJ h.ok h.wf h.fo h.it (by rw [h.parsed])
theorem dH.good:zB T:=by
 have d:=h.few
 have node:∀ x ∈ T.nodes,x.kids.length≤1000000∧oJ T x:=fun x a=>by
  obtain⟨i,b,c⟩:=List.mem_iff_getElem.1 a;obtain⟨h1,h2,h3⟩:=Pj (T:=T) h.ok h.wf h.fo (i:=i) (x:=x) (by rw [← c];exact amF b);exact⟨by omega,h3⟩
 exact⟨h.wf,fun x a=>(node x a).2,fun x a=>(node x a).1,by omega⟩
end
theorem aiS (wild:Bool)(b:Bs)(h:Af (qh wild b)=true):dH (qj wild b):=by
 have g:=aa0 wild b;have a:=Oi wild b;have hi:=Oh wild 12 ⟨[],[],⟨b,[]⟩⟩;have e:=VB (grown wild b).pc [] (Sd wild b []);unfold Af qh at h
 rw [amU,decide_eq_true_iff,decide_eq_true_iff] at h
 obtain⟨_,h2⟩:=h;rw [List.filter_append,amQ] at h2
 have d:=a.few
 refine⟨g.ok,g.wf,g.fo,g.all,fun x c=>(a.sz x c).sized,a.ht,by omega,?_⟩
 have hi:(grown wild b).ix.length≤0+12:=hi
 show (grown wild b).ix.length≤12
 omega
end Go.Proofs.YtalghggmkojblaaGreatDoor
namespace Go.Proofs.YtalghggmkojblaaGreatDoor
open Go.RowKit Mist
attribute [local go_sem] ak aN aV aF aj
theorem aiR (A B:Option Addr)(c d:Nat)(xs:List NV)(l:List Int)(w:World)(hT:uZ w A B xs l)(hn:xs.length≤10000)(hm:l.length≤10000)(hr:∀ x ∈ xs,∀ k ∈ x.1.kids,pY≤k∧k≤kV) :
  Calls Tryz.prog 7 #[.agg #[.slice A xs.length c,.slice B l.length d]] w fun e w'=>Below w.heap.size w w'∧∃ nv iv ext,e=.returned (.agg #[nv,iv])∧RowsIn w.heap.size w' nv iv ext l∧aH ext=aH xs:=by
 obtain⟨n,hnn⟩:∃ n,n=xs.length:=⟨_,rfl⟩;obtain⟨m,R⟩:∃ m,m=l.length:=⟨_,rfl⟩;rw [← hnn] at hn ⊢
 rw [← R] at hm ⊢
 have HRD:=O (Gm hT.items);rw [← R] at HRD
 have vv:=O hnn;clear hnn;have xu:=O R;clear R;have HT:=O hT;clear hT;have HR:=O hr;clear hr;obtain⟨i0,hi0,hz0,hz1,hz2⟩:=info_parts Dz;obtain⟨j0,hj0,hy0,hy1,hy2⟩:=info_parts jq;go_in
 have h0:=O (((Below.refl w.heap.size w).alloc (amL _) (.cells #[.slice A n c,.slice B m d] 28)).alloc (by simp) (.cells #[.slice none 0 0,.slice none 0 0] 28));have h1:=O (h0.o.alloc (by simp;omega) (.cells #[] 3));have Z:=O (World.ownsRow_made (base:=w.heap.size) (e:=3) (size:=1) ((w.alloc (.cells #[.slice A n c,.slice B m d] 28)).alloc (.cells #[.slice none 0 0,.slice none 0 0] 28)) #[] 0 (by simp;omega) (by simp [maxLen]) rfl);have hmb:m * 8≤140737488355328:=by omega
 have ahu:=O (HRD.o.below h1.o);go_wp2_with (at_builtin;go_loud (refine rY _ rfl (.tmp 6) (.tmp 8) 26 rfl w.heap.size 3 j0 _ 1 8 Tryz.underlying26 hj0 hy0 hy1 hy2 rfl (by decide) (.slice (some ⟨w.heap.size+1+1,0,none⟩) 0 0) 0 [] rfl (by simpa using Z.o) w.heap.size B m d (intCells l) rfl ahu.o (by intro u hu;obtain⟨z,_,rfl⟩:=List.mem_map.1 hu;rfl) (by simp only [maxLen];omega) (by omega) (by simp;omega) ?_);intro v2 w2 j K _;rw [Nat.zero_add] at j;obtain⟨H,J,rfl⟩:=dA j)
 have HG2:=O K;have HOW:=O (show w2.ownsRow w.heap.size 3 1 (.slice H m J) m (intCells l) from by simpa using j);have Y:=O (show Below w.heap.size w w2 from h1.o.grown K (by simp;omega) (fun k hk=>by have:=(Z.o.lt k (by simpa using hk)).1;omega));have hBt:=(bY.new w 28 #[.slice A n c,.slice B m d]).alloc (.cells #[.slice none 0 0,.slice none 0 0] 28);have HB2:=O ((hBt.alloc (.cells #[] 3)).grown K (fun e=>by first|(simp [Value.ownBlock] at e;done)|(simp [Value.ownBlock] at e;omega)));have hBz:=zH (W:=w.alloc (.cells #[.slice A n c,.slice B m d] 28)) (T:=28) (cs:=#[.slice none 0 0,.slice none 0 0]) (k:=w.heap.size+1) (by simp);have HZ2:=O ((hBz.alloc (.cells #[] 3)).grown K (fun e=>by first|(simp [Value.ownBlock] at e;done)|(simp [Value.ownBlock] at e;omega)));have L:=Y.o.size;have akb:w.heap.size+1 < w2.heap.size:=HZ2.o.lt;clear j K HG2 hBt hBz Z h0 h1 HRD ahu hmb
 have qX:=O (show RowsIn w.heap.size (w2.alloc (.cells #[.slice none 0 0,.slice H m J] 28)) (.slice none 0 0) (.slice H m J) [] l from
  ⟨World.ownsRow_nil _ _ _ _,(fun x G=>by cases G),by rw [← xu.o];exact HOW.o.alloc _,(fun x G=>by cases G)⟩)
 have N:=O (bY.new w2 28 #[.slice none 0 0,.slice H m J]);have V:=O (HB2.o.alloc (.cells #[.slice none 0 0,.slice H m J] 28));have HZ0:=O (HZ2.o.alloc (.cells #[.slice none 0 0,.slice H m J] 28));have yh:=O (aU Y.o L (o:=.cells #[.slice none 0 0,.slice H m J] 28));clear HB2 HZ2 Y HOW
 generalize w2.alloc (.cells #[.slice none 0 0,.slice H m J] 28)=w4 at qX N V HZ0 yh ⊢
 generalize w2.heap.size=tb at N L akb ⊢
 go_loopw [4] (fun i wr=>∃ (k:Nat) (nv:Value) (ext:List NV),k≤n∧i=.int .i64 k∧ext.length=k∧Hid (aH ext=(aH xs).take k)∧Hid (RowsIn w.heap.size wr nv (.slice H m J) ext l)∧Hid (bY wr tb 28 #[nv,.slice H m J])∧Hid (bY wr w.heap.size 28 #[.slice A n c,.slice B m d])∧Hid (bY wr (w.heap.size+1) 28 #[.slice none 0 0,.slice none 0 0])∧Hid (Below w.heap.size w wr)) (fun i _=>n - (intOf i).toNat)
 case atStart=>exact⟨0,_,[],amN _,rfl,rfl,O rfl,qX,N,V,HZ0,yh⟩
 case round =>
  clear qX N V HZ0 yh;obtain⟨r,rfl⟩:∃ r:World,r=wr:=⟨_,rfl⟩;obtain⟨k,nv,ext,hk,rfl,F,HEX,E,Q,HB,P,M⟩:=hrel;have t0:=HB.o.cell 0;have t1:=HB.o.cell 1;by_cases hkn:k < n
  ·have i3:decide (k < n)=true:=amW hkn;obtain⟨An,cn,rfl⟩:=dA E.o.own;rw [F] at Q
   have C:=O F;have u0:=Q.o.cell 0;have u1:=Q.o.cell 1;have uf:=Q.o.frozen 0;obtain⟨b,o,rfl,I⟩:=HT.o.nodes (by rw [← vv.o];omega);obtain⟨x,G⟩:∃ x,xs[k]? = some x:=nE (by rw [← vv.o];exact hkn);have c0:=(M.o.cell (p:=⟨b,o+k * 5,none⟩) I.lt).trans (I.c0 k x G);have c1:=(M.o.cell (p:=⟨b,o+k * 5+1,none⟩) I.lt).trans (I.c1 k x G);have c2:=(M.o.cell (p:=⟨b,o+k * 5+2,none⟩) I.lt).trans (I.c2 k x G);have c3:=(M.o.cell (p:=⟨b,o+k * 5+3,none⟩) I.lt).trans (I.c3 k x G);have c4:=(M.o.cell (p:=⟨b,o+k * 5+4,none⟩) I.lt).trans (I.c4 k x G);obtain⟨Ka,ca,hxe,hxl,hxk⟩:=I.kid G;rw [hxe] at c3
   have Y8:=O (hxk.below M.o);have HXR:=O (HR.o x (amO G));have HXG:=O (AQ G);clear I G hxe hxk F;obtain⟨⟨kd,tx,y,ks,at_⟩,xv⟩:=x;simp only at c0 c1 c2 c3 c4 hxl Y8 HXR HXG
   obtain⟨f,hnk⟩:∃ f,f=ks.length:=⟨_,rfl⟩;rw [← hnk] at c3 hxl
   have Iq:=O hnk;clear hnk;have z0:(0:Int)≤(k:Int):=by omega
   have z1:(k:Int) < (n:Int):=by omega
   have hlo:=M.o.size;have htl:=Q.o.lt;have htg:w.heap.size≤tb:=L;have xJ:=O ((bY.new r 56 #[.int .u8 kd,.string (aG tx),.int .i64 y,.slice Ka f ca,.int .i64 at_]).alloc (.cells #[] 3));have n3:=xJ.o.cell 3;have hbB:Below r.heap.size r ((r.alloc (.cells #[.int .u8 kd,.string (aG tx),.int .i64 y,.slice Ka f ca,.int .i64 at_] 56)).alloc (.cells #[] 3)):=aU (aU (Below.refl _ _) (amL _)) (by simp);have HBB:=O hbB;have HO9:=O (World.ownsRow_made (base:=r.heap.size) (e:=3) (size:=1) (r.alloc (.cells #[.int .u8 kd,.string (aG tx),.int .i64 y,.slice Ka f ca,.int .i64 at_] 56)) #[] 0 (by simp) (by simp [maxLen]) rfl);have HRK:=Gm Y8.o;rw [← Iq.o] at HRK
   have ahv:=O (HRK.below hbB);clear HRK hbB;go_upto_region 7 with (at_builtin;go_loud (refine rY _ rfl (.tmp 23) (.tmp 25) 26 rfl r.heap.size 3 j0 _ 1 8 Tryz.underlying26 hj0 hy0 hy1 hy2 rfl (by decide) (.slice (some ⟨r.heap.size+1,0,none⟩) 0 0) 0 [] rfl (by simpa using HO9.o) r.heap.size Ka f ca (intCells ks) rfl ahv.o (by intro u hu;obtain⟨z,_,rfl⟩:=List.mem_map.1 hu;rfl) (by simp only [maxLen];omega) (by omega) (by simp;omega) ?_);intro v6 w6 a S _;rw [Nat.zero_add] at a;obtain⟨g,h,rfl⟩:=dA a;have af8:=O (show w6.ownsRow r.heap.size 3 1 (.slice g f h) f (intCells ks) from by simpa using a);have FB:=O (xJ.o.grown S (fun e=>by first|(simp [Value.ownBlock] at e;done)|(simp [Value.ownBlock] at e;omega)));have eY:=O (HBB.o.grown S (by simp;omega) (fun q hq=>by first|(simp [Value.ownBlock] at hq;done)|(simp [Value.ownBlock] at hq;omega)));have m3:=FB.o.frozen 3;have k3:=FB.o.cell 3;clear a S)
   have D:=O (show bY (w6.setCell ⟨r.heap.size,3,none⟩ (.slice g f h)) r.heap.size 56 #[.int .u8 kd,.string (aG tx),.int .i64 y,.slice g f h,.int .i64 at_] from by have:=FB.o.jX 3 (.slice g f h);simpa using this);have U:=O (gQ (b:=r.heap.size) (i:=3) (u:=.slice g f h) eY.o (amL _));have X:=O (show (w6.setCell ⟨r.heap.size,3,none⟩ (.slice g f h)).ownsRow r.heap.size 3 1 (.slice g f h) f (intCells ks) from ownsRow_setCell_other af8.o (aW af8.o FB.o (by decide)) _);clear FB eY af8 xJ HBB HO9 ahv m3 k3 n3
   generalize w6.setCell ⟨r.heap.size,3,none⟩ (.slice g f h)=w5 at D U X ⊢
   have xw:=O (E.o.below U.o);have KI:=O (Q.o.below U.o Q.o.lt);have HK5:=O (Lx X.o (show w.heap.size≤_ by omega));have HFA:=O (adW X.o (amL _) E.o.row);have t:=O (show w5.ownsRow w.heap.size 56 5 (.slice An k cn) k (jC ext) from by have h9:=xw.o.own;rw [C.o] at h9;exact h9);have x0:=D.o.cell 0;have x1:=D.o.cell 1;have x2:=D.o.cell 2;have x3:=D.o.cell 3;have x4:=D.o.cell 4;clear u0 u1 uf c0 c1 c2 c3 c4;have u5:=KI.o.cell 0;have tl5:=KI.o.lt;have f5:=KI.o.frozen 0;have hs5:=U.o.size;go_wp2_with (at_builtin;go_loud (refine wpList_append_lies _ rfl (.tmp 29) (.tmp 31) 25 rfl w.heap.size 56 i0 _ 5 64 Tryz.underlying25 hi0 hz0 hz1 hz2 rfl (by decide) _ k (jC ext) rfl (t.o.alloc _) ⟨w5.heap.size,0,none⟩ 1 1 (iE (⟨kd,tx,y,ks,at_⟩,.slice g f h)) rfl rfl (iK _ _ _) (by intro u hu;simp [iE] at hu;rcases hu with rfl | rfl | rfl | rfl | rfl <;> rfl) (by omega) (by simp only [maxLen];omega) (by omega) (by simp;omega) _ rfl ?_);intro gg cap w6 a S ad7 ah6;have kk:=(KI.o.alloc (.cells #[.int .u8 kd,.string (aG tx),.int .i64 y,.slice g f h,.int .i64 at_] 56)).grown S (fun e=>aW t.o KI.o (by decide) e.symm);have c3':=kk.cell 0;have f3':=kk.frozen 0;clear kk;have Nc:=xw.o.below (aU (Below.refl w5.heap.size w5) (amL _) (o:=.cells #[.int .u8 kd,.string (aG tx),.int .i64 y,.slice g f h,.int .i64 at_] 56));have HTA:=KI.o.alloc (.cells #[.int .u8 kd,.string (aG tx),.int .i64 y,.slice g f h,.int .i64 at_] 56);obtain⟨HRX,xM⟩:=RowsIn.add (x:=(⟨kd,tx,y,ks,at_⟩,.slice g f h)) (gY:=.slice (some ⟨gg,0,none⟩) (k+1) cap) Nc (by rw [C.o];exact HTA) (by rw [C.o];exact S) (by rw [C.o];exact a) (by show World.ownsRow _ _ _ 1 (.slice g f h) ks.length (intCells ks);rw [← Iq.o];exact HK5.o.alloc _) HFA.o;have ajp:=O HRX;have aju:=O xM;have Y4:=O S;clear HRX xM Nc HTA S a ad7)
   have fG:=HB.o.below U.o HB.o.lt;have HZ5:=P.o.below U.o P.o.lt;have HBX:=O (((fG.alloc (.cells #[.int .u8 kd,.string (aG tx),.int .i64 y,.slice g f h,.int .i64 at_] 56)).grown Y4.o (fun e=>aW t.o fG (by decide) e.symm)).far (p:=⟨tb,0,none⟩) (by show w.heap.size ≠ tb;omega) (.slice (some ⟨gg,0,none⟩) (k+1) cap));have HZX:=O (((HZ5.alloc (.cells #[.int .u8 kd,.string (aG tx),.int .i64 y,.slice g f h,.int .i64 at_] 56)).grown Y4.o (fun e=>aW t.o HZ5 (by decide) e.symm)).far (p:=⟨tb,0,none⟩) (by show w.heap.size+1 ≠ tb;omega) (.slice (some ⟨gg,0,none⟩) (k+1) cap));have hl5:=(M.o.trans (U.o.mono hlo)).size;have HLX:=O (gQ (b:=tb) (i:=0) (u:=.slice (some ⟨gg,0,none⟩) (k+1) cap) ((aU (M.o.trans (U.o.mono hlo)) hl5 (o:=.cells #[.int .u8 kd,.string (aG tx),.int .i64 y,.slice g f h,.int .i64 at_] 56)).grown Y4.o (by simp;omega) (fun q hq=>by have:=(t.o.lt q hq).1;omega)) htg)
   have aja:=O (show aH (ext ++ [(⟨kd,tx,y,ks,at_⟩,.slice g f h)])=(aH xs).take (k+1) by
    rw [yF,HEX.o,List.take_add_one,HXG.o];rfl)
   exact⟨⟨k+1,_,ext ++ [(⟨kd,tx,y,ks,at_⟩,.slice g f h)],by omega,by go_num,by rw [amQ,C.o];rfl,aja,ajp,aju,HBX,HZX,HLX⟩,by simp [intOf];omega⟩
  ·have i3:decide (k < n)=false:=amX hkn;have xA:=O (show aH ext=aH xs by rw [HEX.o,amP (by rw [dK,← vv.o];omega)]);have u0:=Q.o.cell 0;have u1:=Q.o.cell 1;obtain⟨An,cn,rfl⟩:=dA E.o.own;rw [F] at u0 E
   have v0:=P.o.cell 0;have v1:=P.o.cell 1;have g0:=P.o.frozen 0;have g1:=P.o.frozen 1;have C:=O F;clear F;go_wp2_with fail;have HZ9:=(P.o.jX 0 (.slice An k cn)).jX 1 (.slice H m J);have r0:=HZ9.cell 0;have r1:=HZ9.cell 1;refine bodyPost_ret (v:=.agg #[.slice An k cn,.slice H m J]) (by simp [results,Tryz.f7,go_sem,r0,r1]) rfl ?_;exact⟨gQ (gQ M.o (by omega)) (by omega),_,_,ext,rfl,(E.o.U1 P.o).U1 (P.o.jX 0 _),xA.o⟩
set_option linter.all false
end Go.Proofs.YtalghggmkojblaaGreatDoor
namespace Mist
def jJ (g:List Pz):Bs:=(g.map (·.text)).flatten
theorem Wx (g:List Pz)(p:Pz):jJ (g ++ [p])=jJ g ++ p.text:=by simp [jJ]
theorem wX:∀ {r:List Pz},(∀ q ∈ r,q.blank=false)→dX r=jJ r
 | [],_=>rfl
 | a :: r,h=>by
  rw [dX,wX fun q b=>h q (List.mem_cons_of_mem _ b),h a (List.mem_cons_self ..)];simp [jJ]
theorem Hl {p:Pz}{r:List Pz}(h:∀ q ∈ r,q.blank=false)(a:p.blank=true∨∃ c t,p.text=c :: t∧c ≠ 32):gP (p :: r)=jJ (p :: r):=by
 unfold gP;rw [dX,wX h];rcases a with a | ⟨c,t,d,b⟩
 ·rw [a];simp [jJ,Go.Lib.trimPrefix,Go.Lib.hasPrefix]
 ·cases e:p.blank
  ·simp [jJ,Go.Lib.trimPrefix,Go.Lib.hasPrefix,d,Ne.symm b]
  ·simp [jJ,Go.Lib.trimPrefix,Go.Lib.hasPrefix]
structure Grp (l:List Pz) (i k:Nat) (g:List Pz):Prop where
 rows:eZ (l.take k)=eZ (l.take i) ++ [g]
 len:i+g.length=k
 head:∃ p r,g=p :: r∧l[i]? = some p∧∀ q ∈ r,q.blank=false
 cat:(jJ g).length≤12 * g.length
def afp (l:List Pz)(i:Nat):Prop:=i=0∨∀ p,l[i]? = some p→p.blank=true
theorem Grp.start {l:List Pz}{i:Nat}{p:Pz}(c:Sh l)(b:afp l i)(a:l[i]? = some p):Grp l i (i+1) [p]:=by
 refine⟨?_,rfl,⟨p,[],rfl,a,fun q h=>by cases h⟩,?_⟩
 ·rw [List.take_add_one,a]
  show eZ (l.take i ++ [p])=_
  rw [oF];unfold jA;rcases b with rfl | b
  ·rw [if_pos (.inr (by rfl))]
  ·rw [if_pos (.inl (b p a))]
 ·have:=c p (amO a)
  simp [jJ];omega
theorem Grp.more {l:List Pz}{i k:Nat}{g:List Pz}{q:Pz}(h:Grp l i k g)(d:Sh l)(c:l[k]? = some q)(b:q.blank=false):Grp l i (k+1) (g ++ [q]):=by
 obtain⟨p,r,e,h1,h2⟩:=h.head
 refine⟨?_,?_,⟨p,r ++ [q],by rw [e];rfl,h1,fun x a=>?_⟩,?_⟩
 ·rw [List.take_add_one,c]
  show eZ (l.take k ++ [q])=_
  rw [oF,h.rows];unfold jA;rw [if_neg (by simp [b])];simp
 ·have:=h.len;simp;omega
 ·rcases List.mem_append.1 a with a | a
  ·exact h2 x a
  ·rw [List.mem_singleton.1 a];exact b
 ·have h3:=d q (amO c);have h4:=h.cat;rw [Wx,amQ,amQ];simp;omega
theorem Yl {l:List Pz}{i:Nat}(h0:0 < i)(hi:i≤l.length)(wide:Int):(fH wide (eZ (l.take i))).1 ≠ 0:=by
 rw [Jt];intro h;have h1:=yM (l.take i);rw [List.length_eq_zero_iff.1 h] at h1
 have h2:=congrArg List.length h1;rw [List.length_take] at h2
 simp at h2
 omega
theorem Grp.done {l:List Pz}{i k:Nat}{g:List Pz}(h:Grp l i k g)(m:k≤l.length)(a:afp l i)(h0:∃ p c t,l[0]? = some p∧p.text=c :: t∧c ≠ 32)(wide:Int) :
  fH wide (eZ (l.take k))=if i=0 then (1,(jJ g).length,jJ g) else if wide < (((fH wide (eZ (l.take i))).2.1+1+(jJ g).length:Nat):Int) then ((fH wide (eZ (l.take i))).1+1,2+(jJ g).length,(fH wide (eZ (l.take i))).2.2 ++ [10,32,32] ++ jJ g) else ((fH wide (eZ (l.take i))).1+1,(fH wide (eZ (l.take i))).2.1+(1+(jJ g).length),(fH wide (eZ (l.take i))).2.2 ++ [32] ++ jJ g):=by
 obtain⟨p,r,e,h1,h2⟩:=h.head
 have f:gP g=jJ g:=by
  rw [e];refine Hl h2 ?_;rcases a with rfl | a
  ·obtain⟨j,c,t,b,d⟩:=h0;obtain rfl:j=p:=amR (b.symm.trans h1);exact .inr ⟨c,t,d⟩
  ·exact .inl (a p h1)
 rw [h.rows,oo];unfold j_;rw [f];by_cases hi:i=0
 ·subst hi;rw [if_pos (show (fH wide (eZ (l.take 0))).1=0 from rfl),if_pos rfl];rfl
 ·have:=h.len
  rw [if_neg (Yl (by omega) (by omega) wide),if_neg hi]
end Mist
set_option linter.all false
namespace Mist
def Mk (c:UInt8):Bool:=c != 32 && c != 10
def OkW (t:Bs):Prop:=t ≠ []∧∀ c ∈ t,Mk c=true
def Lm (wide:Int)(s:Bs):Nat→Bs→Bool→Bs→Nat→Nat→Nat→Bool
 | 0,_,_,_,_,_,_=>false
 | _+1,[],_,flat,line,blank,_=>!(decide (wide < (line:Int)) && decide (0 < blank)) && decide (flat=s)
 | f+1,c :: r,st,flat,line,blank,last =>
  if c=10 then !(decide (wide < (line:Int)) && decide (0 < blank)) && Lm wide s f r true flat 0 0 line
  else if line=0∧st=true then
   decide (c=32∧r.head? = some 32) && !(decide (((last+1+aZ Mk (r.drop 1):Nat):Int)≤wide)) && Lm wide s f (r.drop 1) true (flat ++ [32]) 2 blank last
  else Lm wide s f r true (flat ++ [c]) (line+1) (if c=32 then blank+1 else blank) last
section
variable {wide:Int} {s:Bs}
theorem BL:∀ (t r:Bs) (f:Nat) (g:Bool) (e:Bs) (line d last:Nat),(∀ c ∈ t,Mk c=true)→(line ≠ 0∨g=false)→(t ≠ []∨g=true)→Lm wide s (f+t.length) (t ++ r) g e line d last=Lm wide s f r true (e ++ t) (line+t.length) d last
 | [],r,f,g,e,line,d,last,_,_,h=>by
  rcases h with h | rfl
  ·exact absurd rfl h
  ·simp
 | c :: t,r,f,g,e,line,d,last,hc,hl,_=>by
  have h1:=hc c (List.mem_cons_self ..);unfold Mk at h1
  simp only [amU,bne_iff_ne] at h1
  rw [List.length_cons,← Nat.add_assoc,List.cons_append,Lm,if_neg h1.2,if_neg (by rintro⟨a,b⟩;rcases hl with h | h;exact h a;rw [b] at h;cases h),if_neg h1.1];rw [BL t r f true _ _ _ _ (fun x i=>hc x (List.mem_cons_of_mem _ i)) (.inl (by omega)) (.inr rfl)];rw [List.append_assoc,show line+1+t.length=line+(t.length+1) by omega];rfl
theorem XP {r c:Bs}{f line b last:Nat}(d:line ≠ 0)(e:Bool):Lm wide s (f+1) (32 :: r) e c line b last=Lm wide s f r true (c ++ [32]) (line+1) (b+1) last:=by
 rw [Lm,if_neg (by decide),if_neg (by rintro⟨a,_⟩;exact d a),if_pos rfl]
theorem ab2 {r b:Bs}{f line a last:Nat}(h1:wide < (line:Int)→a=0)(h2:wide < ((line+1+aZ Mk r:Nat):Int))(d:Bool):Lm wide s (f+2) (10 :: 32 :: 32 :: r) d b line a last=Lm wide s f r true (b ++ [32]) 2 0 line:=by
 have c:(!(decide (wide < (line:Int)) && decide (0 < a)))=true:=by
  by_cases h:wide < (line:Int)
  ·rw [h1 h];simp
  ·simp [h]
 rw [Lm,if_pos rfl,c,Bool.true_and,Lm,if_neg (by decide),if_pos ⟨rfl,rfl⟩];rw [show (decide ((32:UInt8)=32∧(32 :: r).head? = some 32))=true by simp,show (32 :: r).drop 1=r from rfl,amX (by omega)];rfl
def En (wide:Int):Nat→List Bs→Bs
 | _,[]=>[]
 | line,t :: r=>if wide < ((line+1+t.length:Nat):Int) then [10,32,32] ++ t ++ En wide (2+t.length) r else [32] ++ t ++ En wide (line+(1+t.length)) r
def YS (ws:List Bs):Bs:=(ws.map (32 :: ·)).flatten
theorem Ur {t r:Bs}(a:∀ c ∈ t,Mk c=true)(b:r=[]∨∃ c r',r=c :: r'∧Mk c=false):aZ Mk (t ++ r)=t.length:=by
 unfold aZ
 induction t with
 | nil =>
  rcases b with rfl | ⟨c,r',rfl,h⟩
  ·rfl
  ·simp [h]
 | cons c t e =>
  rw [List.cons_append,List.takeWhile_cons_of_pos (a c (List.mem_cons_self ..)),List.length_cons,e fun x d=>a x (List.mem_cons_of_mem _ d),List.length_cons]
theorem adj (wide:Int)(line:Nat)(a:List Bs):En wide line a=[]∨∃ c r',En wide line a=c :: r'∧Mk c=false:=by
 cases a with
 | nil=>exact .inl rfl
 | cons t r =>
  right
  unfold En;split
  ·exact⟨10,_,rfl,by decide⟩
  ·exact⟨32,_,rfl,by decide⟩
theorem GD:∀ (c:List Bs) (f line a last:Nat) (b:Bs),(∀ t ∈ c,OkW t)→line ≠ 0→(wide < (line:Int)→a=0)→b ++ YS c=s→(En wide line c).length+1≤f→Lm wide s f (En wide line c) true b line a last=true
 | [],f,line,a,last,b,_,hl,hb,hs,hf=>by
  obtain⟨g,rfl⟩:∃ g,f=g+1:=⟨f - 1,by omega⟩;rw [En,Lm]
  have j:(!(decide (wide < (line:Int)) && decide (0 < a)))=true:=by
   by_cases h:wide < (line:Int)
   ·rw [hb h];simp
   ·simp [h]
  rw [j,Bool.true_and]
  simpa [YS] using hs
 | t :: c,f,line,a,last,b,hw,hl,hb,hs,hf=>by
  have i:=hw t (List.mem_cons_self ..);have e:=fun x l=>hw x (List.mem_cons_of_mem t l)
  have d:(b ++ [32]) ++ t ++ YS c=s:=by rw [← hs];simp [YS]
  rw [En] at hf ⊢
  by_cases h:wide < ((line+1+t.length:Nat):Int)
  ·rw [if_pos h] at hf ⊢
   rw [amQ,amQ] at hf
   simp only [List.length_cons,List.length_nil] at hf
   obtain⟨g,rfl⟩:∃ g,f=g+t.length+2:=⟨f - t.length - 2,by omega⟩;have k:=Ur (r:=En wide (2+t.length) c) i.2 (adj wide _ c)
   show Lm wide s (g+t.length+2) (10 :: 32 :: 32 :: (t ++ En wide (2+t.length) c)) true b line a last=true
   rw [ab2 hb (by rw [k];exact h),BL t _ g true _ 2 0 line i.2 (.inl (by decide)) (.inr rfl)];exact GD c g _ _ _ _ e (by omega) (fun _=>rfl) d (by omega)
  ·rw [if_neg h] at hf ⊢
   rw [amQ,amQ] at hf
   simp only [List.length_cons,List.length_nil] at hf
   obtain⟨g,rfl⟩:∃ g,f=g+t.length+1:=⟨f - t.length - 1,by omega⟩
   show Lm wide s (g+t.length+1) (32 :: (t ++ En wide (line+(1+t.length)) c)) true b line a last=true
   rw [XP hl,BL t _ g true _ _ _ last i.2 (.inl (by omega)) (.inr rfl)];rw [show line+1+t.length=line+(1+t.length) by omega];exact GD c g _ _ _ _ e (by omega) (fun h2=>absurd (by omega) h) d (by omega)
theorem aex (t:Bs)(a:List Bs)(b:OkW t)(f:∀ t ∈ a,OkW t)(d:t ++ YS a=s):Lm wide s ((t ++ En wide t.length a).length+1) (t ++ En wide t.length a) false [] 0 0 0=true:=by
 have c:t.length ≠ 0:=fun e=>b.1 (List.length_eq_zero_iff.1 e)
 rw [amQ,show t.length+(En wide t.length a).length+1=(En wide t.length a).length+1+t.length by omega,BL t _ _ false [] 0 0 0 b.2 (.inr rfl) (.inl b.1),Nat.zero_add];exact GD a _ _ _ _ _ f c (fun _=>rfl) d (by omega)
end
theorem F5 (wide:Int):∀ (rs:List (List Pz)) (n line:Nat) (x:Bs),n ≠ 0→(rs.foldl (j_ wide) (n,line,x)).2.2=x ++ En wide line (rs.map gP)
 | [],n,line,x,_=>by simp [En]
 | r :: rs,n,line,x,h=>by
  rw [List.foldl_cons,List.map_cons,En];unfold j_;simp only
  rw [if_neg h];by_cases h1:wide < ((line+1+(gP r).length:Nat):Int)
  ·rw [if_pos h1,if_pos h1]
   show (rs.foldl (j_ wide) _).2.2=_
   rw [F5 wide rs _ _ _ (by omega)];simp
  ·rw [if_neg h1,if_neg h1]
   show (rs.foldl (j_ wide) _).2.2=_
   rw [F5 wide rs _ _ _ (by omega)];simp
theorem aaV (wide:Int)(r:List Pz)(rs:List (List Pz)):(fH wide (r :: rs)).2.2=gP r ++ En wide (gP r).length (rs.map gP):=by
 unfold fH;rw [List.foldl_cons]
 show (rs.foldl (j_ wide) (1,(gP r).length,[] ++ gP r)).2.2=_
 rw [F5 wide rs _ _ _ (by omega)];simp
theorem Mh (wide:Int):∀ (a:List Bs) (line:Nat),(∀ t ∈ a,OkW t)→(En wide line a).length+2≤2 * (YS a).length+2
 | [],line,_=>by simp [En,YS]
 | t :: a,line,h=>by
  have c:=(h t (List.mem_cons_self ..)).1;have d:0 < t.length:=Nat.pos_of_ne_zero fun e=>c (List.length_eq_zero_iff.1 e)
  have e:(YS (t :: a)).length=1+t.length+(YS a).length:=by simp [YS];omega
  rw [e,En];split
  ·have:=Mh wide a (2+t.length) fun x b=>h x (List.mem_cons_of_mem _ b)
   simp;omega
  ·have:=Mh wide a (line+(1+t.length)) fun x b=>h x (List.mem_cons_of_mem _ b)
   simp;omega
end Mist
namespace Mist
theorem Kl {p:UInt8→Bool}{c:UInt8}{r:Bs}:∀ {t:Bs},aZ p (t ++ c :: r)=t.length→t.all p=true∧p c=false
 | [],h=>by
  unfold aZ at h
  cases d:p c
  ·exact⟨rfl,rfl⟩
  ·simp [d] at h
 | a :: t,h=>by
  unfold aZ at h
  cases b:p a
  ·simp [b] at h
  ·rw [List.cons_append,List.takeWhile_cons_of_pos b,List.length_cons,List.length_cons] at h
   obtain⟨h1,h2⟩:=Kl (p:=p) (c:=c) (r:=r) (t:=t) (by unfold aZ;omega);exact⟨by rw [List.all_cons,b,h1];rfl,h2⟩
theorem Eo {p:UInt8→Bool}{c:UInt8}{r:Bs}(b:p c=false):∀ {t:Bs},t.all p=true→aZ p (t ++ c :: r)=t.length
 | [],_=>by unfold aZ;simp [b]
 | a :: t,h=>by
  rw [List.all_cons,amU] at h
  have:=Eo (r:=r) b h.2
  unfold aZ at this ⊢
  rw [List.cons_append,List.takeWhile_cons_of_pos h.1,List.length_cons,List.length_cons,this]
theorem take_len {t r:Bs}{c:UInt8}{p:UInt8→Bool}(h:(t ++ c :: r).take (aZ p (t ++ c :: r))=t):aZ p (t ++ c :: r)=t.length:=by
 have h1:=congrArg List.length h;have h2:aZ p (t ++ c :: r)≤(t ++ c :: r).length:=by unfold aZ;exact (List.takeWhile_sublist _).length_le
 rw [List.length_take] at h1
 simp at h1 h2
 omega
theorem ac2:∀ n:Fin 256,fF (UInt8.ofNat n.val)=false→bJ (UInt8.ofNat n.val)=false→first [UInt8.ofNat n.val,32]=first [UInt8.ofNat n.val,10]:=by decide +kernel
theorem Uj {b:UInt8}{r r':Bs}(h:skip (b :: r)=0):skip (b :: r')=0:=by
 unfold skip at h ⊢
 rw [iI] at h ⊢
 split at h
 ·omega
 ·rename_i h1
  rw [if_neg h1];split at h
  ·omega
  ·rename_i h2
   rw [if_neg h2]
theorem Dj {p:UInt8→Bool}{t X Y:Bs}{c a:UInt8}(h:(t ++ c :: X).take (aZ p (t ++ c :: X))=t)(b:p c=false→p a=false):(t ++ a :: Y).take (aZ p (t ++ a :: Y))=t∧aZ p (t ++ a :: Y)=t.length∧t.all p=true:=by
 obtain⟨h1,h2⟩:=Kl (take_len h);have h3:=Eo (r:=Y) (b h2) h1;exact⟨by rw [h3];simp,h3,h1⟩
theorem VO {k:Nat}{t X Y:Bs}{c i:UInt8}(h:rz k t (c :: X))(D:i=c∨c=32∧i=10):rz k t (i :: Y)∧∀ x ∈ t,Mk x=true:=by
 have w:∀ x:UInt8,dM x=true→Mk x=true:=fun x C=>by
  unfold Mk;rw [amU,bne_iff_ne,bne_iff_ne];exact⟨fun e=>by rw [e] at C;exact absurd C (by decide),fun e=>by rw [e] at C;exact absurd C (by decide)⟩
 have E:∀ x:UInt8,bJ x=true→Mk x=true:=fun x C=>w x (qC C).1
 have I:dM c=false→dM i=false:=fun h1=>by
  rcases D with rfl | ⟨_,rfl⟩
  ·exact h1
  ·decide
 have K:bJ c=false→bJ i=false:=fun h1=>by
  rcases D with rfl | ⟨_,rfl⟩
  ·exact h1
  ·decide
 cases t with
 | nil=>exact absurd h.pos (by simp)
 | cons x t =>
  have v:(x :: t:Bs) ≠ []:=by simp
  have G:¬ (x :: t ++ c :: X).length=0:=by simp
  have u:¬ (x :: t ++ i :: Y).length=0:=by simp
  have F:gt (x :: t ++ c :: X) 0=x:=rfl;have r:gt (x :: t ++ i :: Y) 0=x:=rfl;have f:=h.first
  suffices n:first (x :: t ++ i :: Y)=(k,x :: t)∧∀ y ∈ x :: t,Mk y=true from ⟨⟨n.1,h.kind,h.pos,Uj (r':=t ++ i :: Y) h.skip,h.valid⟩,n.2⟩
  unfold first at f
  rw [if_neg G,F] at f
  by_cases n:fF x=true
  ·rw [if_pos n] at f
   by_cases B:hasB keywords ((x :: t ++ c :: X).take (aZ dM (x :: t ++ c :: X)))=true
   ·rw [if_pos B] at f
    injection f with h1 h2
    obtain⟨a,b,d⟩:=Dj (Y:=Y) h2 I;rw [h2] at B
    refine⟨?_,fun y hy=>w y (amT.1 d y hy)⟩
    unfold first;rw [if_neg u,r,if_pos n,a,if_pos B,h1]
   ·rw [if_neg B] at f
    by_cases q:aZ dM (x :: t ++ c :: X)≤12
    ·rw [if_pos q] at f
     injection f with h1 h2
     obtain⟨a,b,d⟩:=Dj (Y:=Y) h2 I;have H:=take_len h2;rw [h2] at B
     refine⟨?_,fun y hy=>w y (amT.1 d y hy)⟩
     unfold first;rw [if_neg u,r,if_pos n,a,if_neg B,b,if_pos (by rw [← H];exact q),h1]
    ·rw [if_neg q] at f
     injection f with h1 h2
     exact absurd h2.symm v
  ·rw [if_neg n] at f
   by_cases hd:bJ x=true
   ·rw [if_pos hd] at f
    by_cases q:iB ((x :: t ++ c :: X).take (aZ bJ (x :: t ++ c :: X)))=true
    ·rw [if_pos q] at f
     injection f with h1 h2
     obtain⟨a,b,d⟩:=Dj (Y:=Y) h2 K;rw [h2] at q
     refine⟨?_,fun y hy=>E y (amT.1 d y hy)⟩
     unfold first;rw [if_neg u,r,if_neg n,if_pos hd,a,if_pos q,h1]
    ·rw [if_neg q] at f
     injection f with h1 h2
     exact absurd h2.symm v
   ·have m:fF x=false:=by simpa using n
    have j:bJ x=false:=by simpa using hd
    rw [if_neg hd] at f
    refine⟨?_,?_⟩
    ·have l:=h.first
     cases t with
     | nil =>
      rw [show ([x]:Bs) ++ i :: Y=x :: i :: Y from rfl,om _ _ _ m j];rw [show ([x]:Bs) ++ c :: X=x :: c :: X from rfl,om _ _ _ m j] at l
      rcases D with rfl | ⟨rfl,rfl⟩
      ·exact l
      ·have:=ac2 ⟨x.toNat,x.toNat_lt⟩
       simp only [show UInt8.ofNat x.toNat=x by simp] at this
       rw [← this m j];exact l
     | cons y t =>
      rw [show (x :: y :: t:Bs) ++ i :: Y=x :: y :: (t ++ i :: Y) from rfl,om _ _ _ m j];rw [show (x :: y :: t:Bs) ++ c :: X=x :: y :: (t ++ c :: X) from rfl,om _ _ _ m j] at l
      exact l
    ·cases A:lM (x :: t ++ c :: X) with
     | none=>rw [A] at f;injection f with h1 h2;exact absurd h2.symm v
     | some g =>
      rw [A] at f
      injection f with h1 h2
      have J:=List.mem_of_find?_eq_some A;rw [h2] at J
      exact (by decide:∀ g ∈ signs,∀ y ∈ g,Mk y=true) _ J
inductive qy:eO→eO→Prop
 | nil:qy [] []
 | cons {g g' t:Bs} {k:Nat} {I J:eO} (h:g'=g∨g=[32]∧g'=[10,32,32]) (r:qy I J):qy ((g,k,t) :: I) ((g',k,t) :: J)
theorem qy.append {I J a b:eO}(h:qy I J)(c:qy a b):qy (I ++ a) (J ++ b):=by
 induction h with
 | nil=>exact c
 | cons d _ e=>exact .cons d e
theorem TN {I J:eO}(h:qy I J)(d:jY I []):(I=[]∧J=[])∨∃ c X b Y,ah I=c :: X∧ah J=b :: Y∧(b=c∨c=32∧b=10):=by
 cases h with
 | nil=>exact .inl ⟨rfl,rfl⟩
 | @cons g g' t k I J hc r =>
  right
  have f:=d.2.1.pos
  obtain⟨x,a,rfl⟩:∃ x a,t=x :: a:=by
   cases t with
   | nil=>simp at f
   | cons x a=>exact⟨x,a,rfl⟩
  rcases hc with e | ⟨rfl,rfl⟩
  ·rw [e]
   cases g with
   | nil=>exact⟨x,_,x,_,rfl,rfl,.inl rfl⟩
   | cons y g=>exact⟨y,_,y,_,rfl,rfl,.inl rfl⟩
  ·exact⟨32,_,10,_,rfl,rfl,.inr ⟨rfl,rfl⟩⟩
theorem WU:tY [10,32,32]:=EM.append (jS.append jS)
theorem TI {I J:eO}(h:qy I J):jY I []→jY J []:=by
 induction h with
 | nil=>exact id
 | @cons g g' t k I J hc r ih =>
  intro a
  refine⟨?_,?_,ih a.2.2⟩
  ·rcases hc with rfl | ⟨rfl,rfl⟩
   ·exact a.1
   ·exact WU
  ·rcases TN r a.2.2 with ⟨rfl,rfl⟩ | ⟨c,X,f,Y,b,d,e⟩
   ·exact a.2.1
   ·have h1:=a.2.1;rw [b] at h1
    rw [d];exact (VO h1 e).1
theorem Vz {x:UInt8}(a:dM x=true):Mk x=true:=by
 unfold Mk;rw [amU,bne_iff_ne,bne_iff_ne];exact⟨fun e=>by rw [e] at a;exact absurd a (by decide),fun e=>by rw [e] at a;exact absurd a (by decide)⟩
theorem ab9 {k:Nat}{t:Bs}(h:first t=(k,t))(h0:t ≠ []):∀ x ∈ t,Mk x=true:=by
 have f:¬ t.length=0:=fun e=>h0 (List.length_eq_zero_iff.1 e)
 unfold first at h
 rw [if_neg f] at h
 by_cases d:fF (gt t 0)=true
 ·rw [if_pos d] at h
  have e:t.take (aZ dM t)=t:=by
   split at h
   ·injection h
   ·split at h
    ·injection h
    ·injection h with _ h2;exact absurd h2.symm h0
  exact fun x b=>Vz (amT.1 (yQ _ _ e) x b)
 ·rw [if_neg d] at h
  by_cases hd:bJ (gt t 0)=true
  ·rw [if_pos hd] at h
   have e:t.take (aZ bJ t)=t:=by
    split at h
    ·injection h
    ·injection h with _ h2;exact absurd h2.symm h0
   exact fun x b=>Vz (qC (amT.1 (yQ _ _ e) x b)).1
  ·rw [if_neg hd] at h
   cases a:lM t with
   | none=>rw [a] at h;injection h with _ h2;exact absurd h2.symm h0
   | some g =>
    rw [a] at h
    injection h with _ h2
    have c:=List.mem_of_find?_eq_some a;rw [h2] at c
    exact (by decide:∀ g ∈ signs,∀ y ∈ g,Mk y=true) _ c
theorem ae' {k:Nat}{t r:Bs}(h:rz k t r):OkW t:=by
 have h0:t ≠ []:=fun e=>absurd h.pos (by rw [e];simp)
 refine⟨h0,?_⟩
 cases r with
 | nil=>exact ab9 (by have:=h.first;rwa [List.append_nil] at this) h0
 | cons c X=>exact (VO (Y:=[]) h (.inl rfl)).2
theorem YU:∀ {I J:eO} (a b:Nat),qy I J→(nM a I).map n_=(nM b J).map n_:=by
 intro I J a b h
 induction h generalizing a b with
 | nil=>rfl
 | @cons g g' t k I J hc r ih =>
  rw [nM,nM,List.map_cons,List.map_cons,ih (a+g.length+t.length) (b+g'.length+t.length)];rfl
theorem TL {I J:eO}(h:qy I J)(a:jY I [])(b:I.length≤800)(h1:(ah I).length≤2000)(h2:(ah J).length≤2000):qR (ah I) (ah J)=(true,0):=by
 have d:J.length=I.length:=by
  clear a b h1 h2
  induction h with
  | nil=>rfl
  | cons _ _ c=>simp [c]
 have r1:=xX I [] a rfl rfl b (by simpa using h1);have r2:=xX J [] (TI h a) rfl rfl (by omega) (by simpa using h2);rw [List.append_nil] at r1 r2
 rw [Eh _ _ (by rw [r1]) (by rw [r2]),r1,r2];unfold qA;rw [YU 0 0 h];simp
structure yw (rs:List (List Pz)):Prop where
 row:∀ r ∈ rs,∃ p q,r=p :: q∧∀ x ∈ q,x.blank=false
 gap:∀ (k:Nat) p q,rs[k+1]? = some (p :: q)→p.blank=true
theorem acP:∀ (n:Nat) (l:List Pz),l.length=n→yw (eZ l):=by
 intro n
 induction n with
 | zero =>
  intro l h;rw [List.length_eq_zero_iff.1 h];exact⟨fun r i=>(by cases i),fun k p q h=>(by cases h)⟩
 | succ n E =>
  intro l h;have w:l ≠ []:=fun e=>by rw [e] at h;cases h
  obtain⟨a,c,e⟩:∃ a x,l=a ++ [x]:=⟨l.dropLast,l.getLast w,(List.dropLast_concat_getLast w).symm⟩;subst e;have g:=E a (by simp at h;exact h);rw [oF];unfold jA;split
  ·rename_i f
   refine⟨fun r i=>?_,fun k p q b=>?_⟩
   ·rcases List.mem_append.1 i with i | i
    ·exact g.row r i
    ·rw [List.mem_singleton.1 i];exact⟨c,[],rfl,fun x j=>by cases j⟩
   ·rcases Nat.lt_or_ge (k+1) (eZ a).length with h1 | h1
    ·rw [List.getElem?_append_left h1] at b;exact g.gap k p q b
    ·rw [List.getElem?_append_right h1] at b
     have d:k+1 - (eZ a).length=0:=by
      rcases Nat.eq_zero_or_pos (k+1 - (eZ a).length) with h2 | h2
      ·exact h2
      ·rw [List.getElem?_eq_none (by simp;omega)] at b;cases b
     rw [d] at b
     have b:[c]=p :: q:=by simpa using b
     injection b with m D
     rcases f with f | f
     ·rw [← m];exact f
     ·rw [f] at h1 d;simp at d
  ·rename_i f
   have u:c.blank=false:=by
    cases u:c.blank
    ·rfl
    ·exact absurd (.inl u) f
   have A:eZ a ≠ []:=fun e=>f (.inr e)
   obtain⟨rs,r,e⟩:∃ rs r,eZ a=rs ++ [r]:=⟨(eZ a).dropLast,(eZ a).getLast A,(List.dropLast_concat_getLast A).symm⟩;rw [e] at g ⊢
   rw [List.dropLast_concat,show (rs ++ [r]).getLastD []=r by simp];obtain⟨B,C,t,v⟩:=g.row r (by simp)
   refine⟨fun x j=>?_,fun k p q b=>?_⟩
   ·rcases List.mem_append.1 j with j | j
    ·exact g.row x (List.mem_append_left _ j)
    ·rw [List.mem_singleton.1 j]
     refine⟨B,C ++ [c],by rw [t];rfl,fun y hy=>?_⟩
     rcases List.mem_append.1 hy with hy | hy
     ·exact v y hy
     ·rw [List.mem_singleton.1 hy];exact u
   ·rcases Nat.lt_or_ge (k+1) rs.length with h1 | h1
    ·rw [List.getElem?_append_left h1] at b
     exact g.gap k p q (by rw [List.getElem?_append_left h1];exact b)
    ·rw [List.getElem?_append_right h1] at b
     have d:k+1 - rs.length=0:=by
      rcases Nat.eq_zero_or_pos (k+1 - rs.length) with h2 | h2
      ·exact h2
      ·rw [List.getElem?_eq_none (by simp;omega)] at b;cases b
     rw [d] at b
     have b:r ++ [c]=p :: q:=by simpa using b
     rw [t] at b
     injection b with m D
     rw [← m];exact g.gap k B C (by rw [List.getElem?_append_right h1,d,t];rfl)
theorem yw.tail {r:List Pz}{rs:List (List Pz)}(h:yw (r :: rs)):yw rs:=⟨fun x a=>h.row x (List.mem_cons_of_mem _ a),fun k p q e=>h.gap (k+1) p q e⟩
def LY (g:Bs):List Pz→eO
 | []=>[]
 | p :: q=>(g,kind p.text,p.text) :: q.map fun x=>([],kind x.text,x.text)
theorem NC:∀ q:List Pz,ah (q.map fun x=>(([]:Bs),kind x.text,x.text))=jJ q
 | []=>rfl
 | a :: q=>by
  show [] ++ (a.text ++ ah _)=_
  rw [NC q];simp [jJ]
theorem DT (g:Bs)(p:Pz)(q:List Pz):ah (LY g (p :: q))=g ++ jJ (p :: q):=by
 show g ++ (p.text ++ ah _)=_
 rw [NC];simp [jJ]
theorem VA:∀ {q:List Pz},(∀ x ∈ q,x.blank=false)→MI q=q.map fun x=>(([]:Bs),kind x.text,x.text)
 | [],_=>rfl
 | a :: q,h=>by
  have:=VA fun x b=>h x (List.mem_cons_of_mem a b)
  unfold MI at this ⊢
  rw [List.map_cons,List.map_cons,this];unfold pcP aaW;rw [h a (List.mem_cons_self ..)];rfl
theorem acA {p:Pz}{q:List Pz}(h:∀ x ∈ q,x.blank=false):MI (p :: q)=LY (aaW p.blank) (p :: q):=by
 have:=VA h
 unfold MI at this ⊢
 rw [List.map_cons,this];rfl
theorem yN {g g':Bs}(h:g'=g∨g=[32]∧g'=[10,32,32])(r:List Pz):qy (LY g r) (LY g' r):=by
 have d:∀ I:eO,qy I I:=fun I=>by
  induction I with
  | nil=>exact .nil
  | cons x I e=>obtain⟨a,b,c⟩:=x;exact .cons (.inl rfl) e
 cases r with
 | nil=>exact .nil
 | cons p q=>exact .cons h (d _)
def txJ (wide:Int):Nat→List (List Pz)→eO
 | _,[]=>[]
 | line,r :: rs=>if wide < ((line+1+(jJ r).length:Nat):Int) then LY [10,32,32] r ++ txJ wide (2+(jJ r).length) rs else LY [32] r ++ txJ wide (line+(1+(jJ r).length)) rs
theorem Ie (a:Int):∀ (rs:List (List Pz)) (line:Nat),yw rs→ah (txJ a line rs)=En a line (rs.map jJ)
 | [],_,_=>rfl
 | r :: rs,line,h=>by
  obtain⟨p,q,e,_⟩:=h.row r (List.mem_cons_self ..);rw [txJ,List.map_cons,En];split
  ·rw [aX,Ie a rs _ h.tail,e,DT]
  ·rw [aX,Ie a rs _ h.tail,e,DT]
theorem Kk (a:Int):∀ (rs:List (List Pz)) (line:Nat),yw rs→(∀ p q,rs[0]? = some (p :: q)→p.blank=true)→qy (MI rs.flatten) (txJ a line rs)
 | [],_,_,_=>.nil
 | r :: rs,line,h,h0=>by
  obtain⟨p,q,e,d⟩:=h.row r (List.mem_cons_self ..);have c:=h0 p q (by rw [e];rfl);have b:=fun line=>Kk a rs line h.tail fun p q e=>h.gap 0 p q e
  rw [List.flatten_cons,Fg,e,acA d,c,txJ];split
  ·exact (yN (.inr ⟨rfl,rfl⟩) _).append (b _)
  ·exact (yN (.inl rfl) _).append (b _)
theorem F9:∀ {l:List Pz} {r:Bs},jY (MI l) r→∀ p ∈ l,OkW p.text
 | a :: l,r,h,p,b=>by
  rcases List.mem_cons.1 b with rfl | b
  ·exact ae' h.2.1
  ·exact F9 (l:=l) (r:=r) h.2.2 p b
theorem NG {r:List Pz}(h:∀ p ∈ r,OkW p.text)(h0:r ≠ []):OkW (jJ r):=by
 refine⟨?_,fun c a=>?_⟩
 ·cases r with
  | nil=>exact absurd rfl h0
  | cons p q =>
   have:=(h p (List.mem_cons_self ..)).1
   simp [jJ]
   exact fun e=>absurd e this
 ·unfold jJ at a
  obtain⟨t,d,a⟩:=List.mem_flatten.1 a;obtain⟨p,b,rfl⟩:=List.mem_map.1 d;exact (h p b).2 c a
theorem Qb (a b:List Pz):dX (a ++ b)=dX a ++ dX b:=by rw [← oP,← oP,← oP,Fg,aX]
theorem Kc:∀ (rs:List (List Pz)),yw rs→(∀ p q,rs[0]? = some (p :: q)→p.blank=true)→dX rs.flatten=YS (rs.map jJ)
 | [],_,_=>rfl
 | r :: rs,h,h0=>by
  obtain⟨p,q,e,b⟩:=h.row r (List.mem_cons_self ..);have a:=h0 p q (by rw [e];rfl);rw [List.flatten_cons,Qb,Kc rs h.tail fun p q e=>h.gap 0 p q e,e,dX,a,wX b];simp [YS,jJ]
theorem agk {l:List Pz}(d:Int)(Q:Gd l)(h0:∃ p r,l=p :: r∧p.blank=false) :
  Lm d (dX l) ((fH d (eZ l)).2.2.length+1) (fH d (eZ l)).2.2 false [] 0 0 0=true∧(fH d (eZ l)).2.2.length≤2 * (dX l).length ∧
   (l.length≤800→(dX l).length≤2000→(fH d (eZ l)).2.2.length≤2000→qR (dX l) (fH d (eZ l)).2.2=(true,0)):=by
 obtain⟨p,r,e,P⟩:=h0;have H:jY (MI l) []:=Q [] (.inl rfl);have N:=F9 H;have i:=acP _ l rfl;have hF:=yM l
 cases w:eZ l with
 | nil=>rw [w] at hF;rw [e] at hF;cases hF
 | cons r0 rs =>
  rw [w] at i hF
  obtain⟨B,T,m,j⟩:=i.row r0 (List.mem_cons_self ..);have F:B=p:=by rw [m,e] at hF;simp at hF;exact hF.1
  have q:B.blank=false:=by rw [F];exact P
  have f:∀ x ∈ r0 :: rs,∀ y ∈ x,OkW y.text:=fun x g y hy=>N y (by rw [← hF];exact List.mem_flatten.2 ⟨x,g,hy⟩)
  have u:∀ x ∈ r0 :: rs,x ≠ []:=fun x g=>by obtain⟨a,b,c,_⟩:=i.row x g;rw [c];simp
  have D:gP r0=jJ r0:=by
   rw [m];refine Hl j (.inr ?_);have K:=f r0 (List.mem_cons_self ..) B (by rw [m];exact List.mem_cons_self ..)
   obtain⟨c,t,C⟩:∃ c t,B.text=c :: t:=by
    cases g:B.text with
    | nil=>exact absurd g K.1
    | cons c t=>exact⟨c,t,rfl⟩
   have:=K.2 c (by rw [C];exact List.mem_cons_self ..)
   refine⟨c,t,C,fun h=>?_⟩
   rw [h] at this;exact absurd this (by decide)
  have v:rs.map gP=rs.map jJ:=List.map_congr_left fun x g=>by
   obtain⟨a,b,c,S⟩:=i.tail.row x g;obtain⟨k,R,E⟩:=List.getElem_of_mem g;rw [c];exact Hl S (.inl (i.gap k a b (by rw [List.getElem?_cons_succ,amF R,E,c])))
  have n:∀ a b,rs[0]? = some (a :: b)→a.blank=true:=fun a b h=>i.gap 0 a b h
  have J:dX l=jJ r0 ++ YS (rs.map jJ):=by
   rw [← hF,List.flatten_cons,Qb,Kc rs i.tail n,m,dX,q,wX j];simp [jJ]
  have G:OkW (jJ r0):=NG (f r0 (List.mem_cons_self ..)) (u r0 (List.mem_cons_self ..))
  have A:∀ t ∈ rs.map jJ,OkW t:=fun t C=>by
   obtain⟨x,g,rfl⟩:=List.mem_map.1 C;exact NG (f x (List.mem_cons_of_mem _ g)) (u x (List.mem_cons_of_mem _ g))
  rw [aaV,D,v]
  refine⟨aex _ _ G A J.symm,?_,fun h1 h2 h3=>?_⟩
  ·have:=Mh d (rs.map jJ) (jJ r0).length A
   rw [J,amQ,amQ];omega
  ·have L:MI l=LY [] r0 ++ MI rs.flatten:=by
    rw [← hF,List.flatten_cons,Fg,m,acA j,q];rfl
   have M:qy (MI l) (LY [] r0 ++ txJ d (jJ r0).length rs):=by
    rw [L];exact (yN (.inl rfl) _).append (Kk d rs _ i.tail n)
   have I:ah (LY [] r0 ++ txJ d (jJ r0).length rs)=jJ r0 ++ En d (jJ r0).length (rs.map jJ):=by
    rw [aX,Ie d rs _ i.tail,m,DT];rfl
   have:=TL M H (by unfold MI;simpa using h1) (by rw [oP];exact h2) (by rw [I];exact h3)
   rwa [oP,I] at this
end Mist
