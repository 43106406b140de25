/-
  A part of the proof.
-/
import Derived.Test.YthepmkjggfijoaaGreatDoorSA
import Derived.Test.YthepmkjggfijoaaGreatDoorL04
set_option linter.all false
set_option maxRecDepth 100000
namespace Mist
theorem len_eq {ns ns0 new a:List Nd}(b:ns.length=ns0.length)(e:a.map strip=new):(ns ++ a).length=(ns0 ++ new).length:=by
 rw [aaO,aaO,b,← e,List.length_map]
theorem yC {s:bB}{I:bN}{d:bB}{n:Nd}{new:List Nd}(b:d.ns=s.ns ++ new)(m:∃ g k t R,I=(g,k,t) :: R∧Ny t)(u:strip n=n)
  (q:∀ (l:List Tok) (en:Int) (p:Nat) (ns:List Nd),qb l p I→ns.length=s.ns.length→BK (tx l (p+I.length))→∃ a c,a.map strip=new∧strip c=n∧Runs l en .post p ns [((ns ++ a).length:Int)] (p+I.length) (ns ++ a ++ [c])):vw s (bJ I d n) (new ++ [n]):=by
 refine⟨?_,m,fun l en p ns j f r=>?_⟩
 ·show d.ns ++ [n]=_
  rw [b,List.append_assoc]
 ·obtain⟨a,c,e,h,i⟩:=q l en p ns j f r
  refine⟨a ++ [c],by rw [List.map_append,e];show new ++ [strip c]=_;rw [h],?_⟩
  have O:(bJ I d n).ix=((ns ++ a).length:Int):=by
   show (d.ns.length:Int)=_
   rw [b,len_eq f e]
  rw [O,← List.append_assoc];exact i
theorem mM {t x:Bs}(h:t=x)(a:Sg x=true):lW t:=by rw [h];exact Gc a
section
variable (ay:Bool) {E:bB→j4} (hE:∀ s,∃ new,vw s (E s) new)
include hE
theorem if_ep (s:bB):∃ new,vw s (SH ay E s) new:=by
 obtain⟨H,h1⟩:=hE s;obtain⟨I,h2⟩:=hE (E s).st;obtain⟨J,h3⟩:=hE (E (E s).st).st
 generalize R:E s=A at h1 h2 h3
 generalize S:E A.st=C at h2 h3
 generalize T:E C.st=D at h3
 refine⟨H ++ I ++ J ++ [⟨19,[],0,[A.ix,C.ix,D.ix],0⟩],?_⟩
 unfold SH;simp only [R,S,T];refine Aq ay (s:=s) (new:=H ++ I ++ J) (n:=⟨19,[],0,[A.ix,C.ix,D.ix],0⟩) (fun l b p d B f F=>?_) (by rw [aF,aF,aF,aF,aF,h3.ns,h2.ns,h1.ns,List.append_assoc,List.append_assoc,List.append_assoc]) rfl;have Q:=B.head;have m:=B.tail;have N:=m.left.on;have h:=m.right;rw [bL] at h
 have q:=h.head;have P:=h.tail.left.on;have a:=h.tail.right;rw [bL] at a
 have r:=a.head;have i:=a.tail.on
 have c:∀ u v w x y K L M,p+((([]:Bs),3,K) :: (bN.on u A.pc ++ (v,3,L) :: (bN.on w C.pc ++ (x,3,M) :: bN.on y D.pc))).length=p+1+A.pc.length+1+C.pc.length+1+D.pc.length:=by
  intro u v w x y K L M;simp only [List.length_cons,aaO,bL];omega
 rw [c] at F ⊢
 obtain⟨g,e,U⟩:=h1.expr (en:=b) N f (mM q.2 (by decide));obtain⟨k,j,V⟩:=h2.expr (en:=b) (ns:=d ++ g) P (by rw [h1.ns];exact len_eq f e) (mM r.2 (by decide));obtain⟨G,t,W⟩:=h3.expr (en:=b) (ns:=d ++ g ++ k) i (by rw [h2.ns,h1.ns];exact len_eq (len_eq f e) j) F
 have O:(aO ay (aO ay (aO ay (aO ay (aO ay D.st))))).id=((d ++ g ++ k ++ G).length:Int):=by
  unfold bB.id;rw [aF,aF,aF,aF,aF,h3.ns,h2.ns,h1.ns,len_eq (len_eq (len_eq f e) j) t]
 rw [O]
 refine⟨g ++ k ++ G ++ [⟨19,[],0,[A.ix,C.ix,D.ix],pl l b p⟩],by rw [List.map_append,List.map_append,List.map_append,e,j,t];rfl,?_⟩
 have:=Vk Q.2 U q.2 V r.2 W
 simpa only [List.append_assoc] using this
theorem Y2 {x:Bs}(s:bB):∃ new,vw s (BF ay E x s) new:=by
 obtain⟨v,h1⟩:=hE s;obtain⟨w,h2⟩:=hE (E s).st
 generalize K:E s=A at h1 h2
 generalize L:E A.st=C at h2
 refine⟨v ++ w ++ [⟨20,x,0,[A.ix,C.ix],0⟩],?_⟩
 unfold BF;simp only [K,L];refine Aq ay (s:=s) (new:=v ++ w) (n:=⟨20,x,0,[A.ix,C.ix],0⟩) (fun l a p g b e t=>?_) (by rw [aF,aF,aF,aF,h2.ns,h1.ns,List.append_assoc]) rfl;have I:=b.head;have h:=b.tail.head;have J:=b.tail.tail.head;have G:=b.tail.tail.tail.left;have F:=b.tail.tail.tail.right;have i:=F.head;have H:=F.tail.on
 have c:∀ k m q r y B D,p+((([]:Bs),3,y) :: (k,1,x) :: (m,4,B) :: (A.pc ++ (q,3,D) :: bN.on r C.pc)).length=p+1+1+1+A.pc.length+1+C.pc.length:=by
  intro k m q r y B D;simp only [List.length_cons,aaO,bL];omega
 rw [c] at t ⊢
 obtain⟨f,d,M⟩:=h1.expr (en:=a) G e (mM i.2 (by decide));obtain⟨u,j,N⟩:=h2.expr (en:=a) (ns:=g ++ f) H (by rw [h1.ns];exact len_eq e d) t
 have O:(aO ay (aO ay (aO ay (aO ay C.st)))).id=((g ++ f ++ u).length:Int):=by
  unfold bB.id;rw [aF,aF,aF,aF,h2.ns,h1.ns,len_eq (len_eq e d) j]
 rw [O]
 refine⟨f ++ u ++ [⟨20,tx l (p+1),0,[A.ix,C.ix],pl l a p⟩],by rw [List.map_append,List.map_append,d,j,h.2];rfl,?_⟩
 have:=RL I.2 h.1 J.2 M i.2 N
 simpa only [List.append_assoc] using this
theorem Ki:∀ (m:Nat) (r:oG),r.ix ≠ []→∃ (J:bN) (d:List Int) (new:List Nd),(bK ay E m r).pc=r.pc ++ J∧(bK ay E m r).ix=r.ix ++ d∧(bK ay E m r).st.ns=r.st.ns ++ new ∧
  ∀ (l:List Tok) (en:Int) (p:Nat) (ns:List Nd),qb l p J→ns.length=r.st.ns.length→lW (tx l (p+J.length))→tx l (p+J.length) ≠ [44] →
   (J=[]∨tx l p=[44])∧∃ a,a.map strip=new∧Runs l en (.eu .expr r.ix) p ns (r.ix ++ d) (p+J.length) (ns ++ a)
 | 0,r,_=>⟨[],[],[],by rw [List.append_nil];rfl,by rw [List.append_nil];rfl,by rw [List.append_nil];rfl,fun l en p ns _ _ _ h=>⟨.inl rfl,[],rfl,by
   rw [List.append_nil,List.append_nil];exact wC h⟩⟩
 | m+1,r,hr=>by
  rw [bK,if_neg hr];obtain⟨G,h1⟩:=hE (aO ay r.st)
  generalize E (aO ay r.st)=A at h1
  obtain⟨J,d,new,x,B,C,q⟩:=Ki m ⟨r.pc ++ (bR [44] :: bN.on (bG ay r.st) A.pc),r.ix ++ [A.ix],A.st⟩ (by simp)
  refine⟨bR [44] :: bN.on (bG ay r.st) A.pc ++ J,A.ix :: d,G ++ new,by rw [x,List.append_assoc],by rw [B];simp,by rw [C,h1.ns,aF,List.append_assoc],fun l en p ns g t c f=>?_⟩
  have j:=g.left.head;have w:=g.left.tail.on;have e:=g.right;rw [List.length_cons,bL] at e
  have b:p+(bR [44] :: bN.on (bG ay r.st) A.pc ++ J).length=p+(A.pc.length+1)+J.length:=by
   rw [aaO,List.length_cons,bL];omega
  rw [b] at c f ⊢
  refine⟨.inr j.2,?_⟩
  have n:p+1+A.pc.length=p+(A.pc.length+1):=by omega
  have i:lW (tx l (p+1+A.pc.length)):=by
   rw [n]
   cases J with
   | nil=>exact c
   | cons y J =>
    obtain⟨I,K,L⟩:=y
    have:=(q l en (p+(A.pc.length+1)) (List.replicate A.st.ns.length default) e (by simp) c f).1
    rcases this with h | h
    ·cases h
    ·exact mM h (by decide)
  obtain⟨u,k,v⟩:=h1.expr (en:=en) (ns:=ns) w (by rw [aF];exact t) i;obtain⟨_,F,D,H⟩:=q l en (p+(A.pc.length+1)) (ns ++ u) e (by show _=A.st.ns.length;rw [h1.ns,aF];exact len_eq t k) c f
  refine⟨u ++ F,by rw [List.map_append,k,D],?_⟩
  rw [n] at v
  have:=wD j.2 v H
  simpa only [List.append_assoc,List.cons_append,List.nil_append] using this
theorem A9 (m:Nat)(s:bB):∃ new:List Nd,(bK ay E (m+1) ⟨[],[],s⟩).st.ns=s.ns ++ new∧(∃ g k t R,(bK ay E (m+1) ⟨[],[],s⟩).pc=(g,k,t) :: R∧Ny t) ∧
  ∀ (l:List Tok) (en:Int) (p:Nat) (ns:List Nd),qb l p (bK ay E (m+1) ⟨[],[],s⟩).pc→ns.length=s.ns.length→lW (tx l (p+(bK ay E (m+1) ⟨[],[],s⟩).pc.length))→tx l (p+(bK ay E (m+1) ⟨[],[],s⟩).pc.length) ≠ [44] →
   ∃ a,a.map strip=new∧Runs l en (.list .expr) p ns (bK ay E (m+1) ⟨[],[],s⟩).ix (p+(bK ay E (m+1) ⟨[],[],s⟩).pc.length) (ns ++ a):=by
 rw [bK,if_pos rfl];obtain⟨C,h1⟩:=hE s
 show ∃ new:List Nd,(bK ay E m ⟨[] ++ (E s).pc,[] ++ [(E s).ix],(E s).st⟩).st.ns=s.ns ++ new∧_
 generalize E s=A at h1
 obtain⟨J,G,new,i,u,v,n⟩:=Ki ay hE m ⟨[] ++ A.pc,[] ++ [A.ix],A.st⟩ (by simp)
 refine⟨C ++ new,by rw [v,h1.ns,List.append_assoc],?_,fun l en p ns d q b c=>?_⟩
 ·obtain⟨g,k,t,R,e,x⟩:=h1.head;exact⟨g,k,t,R ++ J,by rw [i,List.nil_append,e];rfl,x⟩
 ·rw [i,List.nil_append] at d b c ⊢
  rw [aaO,← Nat.add_assoc] at b c ⊢
  have f:lW (tx l (p+A.pc.length)):=by
   cases J with
   | nil=>exact b
   | cons y J =>
    have:=(n l en (p+A.pc.length) (List.replicate A.st.ns.length default) d.right (by simp) b c).1
    rcases this with h | h
    ·cases h
    ·exact mM h (by decide)
  obtain⟨r,j,D⟩:=h1.expr (en:=en) d.left q f;obtain⟨_,B,w,F⟩:=n l en (p+A.pc.length) (ns ++ r) d.right (by show _=A.st.ns.length;rw [h1.ns];exact len_eq q j) b c
  refine⟨r ++ B,by rw [List.map_append,j,w],?_⟩
  rw [u,← List.append_assoc];exact yQ D F
theorem Tv {x:Bs}(h:x ∈ iX)(s:bB):∃ new,vw s (vI ay E x s) new:=by
 unfold vI;rcases D:s.nx % 4 with _ | m
 ·refine⟨[] ++ [⟨21,x,0,[],0⟩],yC (by rw [aF,List.append_nil];rfl) (by exact⟨_,_,_,_,rfl,yg h⟩) rfl (fun l e p r a n f=>?_)⟩
  have b:=a.head;have j:=a.tail.head;have c:=a.tail.tail.head
  refine⟨[],⟨21,tx l p,0,[],pl l e p⟩,rfl,by rw [b.2];rfl,?_⟩
  rw [List.append_nil];exact iL (Il (sG h b) j.2 c.2) f
 ·obtain⟨new,u,⟨g,k,t,R,v,A⟩,y⟩:=A9 ay hE m s.tl;simp only
  generalize bK ay E (m+1) ⟨[],[],s.tl⟩=L at *
  refine⟨new ++ [⟨21,x,0,L.ix,0⟩],yC (by rw [aF,u];rfl) (by exact⟨_,_,_,_,rfl,yg h⟩) rfl (fun l e p r a n f=>?_)⟩
  have b:=a.head;have j:=a.tail.head;have i:=a.tail.tail.left;have c:=a.tail.tail.right.head;obtain⟨B,w,C⟩:=y l e (p+1+1) r i n (oO c.2) (by rw [c.2];decide)
  have h3:tx l (p+2) ≠ [41]:=by
   rw [v] at i
   rw [show p+2=p+1+1 by omega,i.head.2];exact A.shut
  refine⟨B,⟨21,tx l p,0,L.ix,pl l e p⟩,w,by rw [b.2];rfl,?_⟩
  have d:∀ q,p+((([]:Bs),1,x) :: bR [40] :: (L.pc ++ [q])).length=p+1+1+L.pc.length+1:=by intro q;simp;omega
  rw [d] at f ⊢
  exact iL (M8 (sG h b) j.2 h3 C c.2) f
theorem O8 {x:Bs}(s:bB):∃ new,vw s (qz ay E x s) new:=by
 unfold qz;obtain⟨u,h1⟩:=hE s;simp only
 generalize E s=A at h1
 refine⟨u ++ [⟨22,x,0,[A.ix],0⟩],yC (by rw [aF,h1.ns]) (by exact⟨_,_,_,_,rfl,Ag rfl⟩) rfl (fun l b p w c r d=>?_)⟩
 have f:=c.head;have m:=c.tail.left;have e:=c.tail.right;have g:=e.head;have n:=e.tail.head;have h:=e.tail.tail.head;obtain⟨t,q,v⟩:=h1.expr (en:=b) m r (oO g.2)
 refine⟨t,⟨22,tx l (p+1+A.pc.length+1+1),0,[A.ix],pl l b (p+1+A.pc.length+1)⟩,q,by rw [h.2];rfl,?_⟩
 have a:∀ i j k:Bs × Nat × Bs,p+(bR [40] :: (A.pc ++ [i,j,k])).length=p+1+A.pc.length+1+2:=by intro i j k;simp;omega
 rw [a] at d ⊢
 exact yT (sD f.1 f.2 v g.2) (Iu n.2 h.1 (yV d.1 d.2.1))
theorem PU (s:bB):∃ new,vw s (qC ay E s) new:=by
 unfold qC;obtain⟨w,h1⟩:=hE s;obtain⟨x,h2⟩:=hE (E s).st;simp only
 generalize E s=A at h1 h2
 generalize E A.st=C at h2
 refine⟨w ++ x ++ [⟨23,[],0,[A.ix,C.ix],0⟩],yC (by rw [aF,h2.ns,h1.ns,List.append_assoc]) (by exact⟨_,_,_,_,rfl,Ag rfl⟩) rfl (fun l a p m d j e=>?_)⟩
 have f:=d.head;have n:=d.tail.left;have c:=d.tail.right;have g:=c.head;have t:=c.tail.head;have r:=c.tail.tail.left;have h:=c.tail.tail.right.head;obtain⟨k,i,y⟩:=h1.expr (en:=a) n j (oO g.2);obtain⟨v,u,B⟩:=h2.expr (en:=a) (ns:=m ++ k) r (by rw [h1.ns];exact len_eq j i) (mM h.2 (by decide))
 refine⟨k ++ v,⟨23,[],0,[A.ix,C.ix],pl l a (p+1+A.pc.length+1)⟩,by rw [List.map_append,i,u],rfl,?_⟩
 have b:∀ q:Bs × Nat × Bs,p+(bR [40] :: (A.pc ++ bR [41] :: bR [91] :: (C.pc ++ [q]))).length=p+1+A.pc.length+1+1+C.pc.length+1:=by intro q;simp;omega
 rw [b] at e ⊢
 rw [← List.append_assoc];exact yT (sD f.1 f.2 y g.2) (IJ t.2 B h.2 (yV e.1 e.2.1))
theorem Oc (s:bB):∃ new,vw s (qc ay E s) new:=by
 unfold qc;obtain⟨new,i,⟨g,k,t,R,w,x⟩,n⟩:=A9 ay hE (s.nx % 4) s.tl;rw [Nat.add_comm 1];simp only
 generalize bK ay E (s.nx % 4+1) ⟨[],[],s.tl⟩=L at *
 refine⟨new ++ [⟨26,[],0,L.ix,0⟩],yC (by rw [aF,i];rfl) (by exact⟨_,_,_,_,rfl,A8 (by decide)⟩) rfl (fun l e p u c m f=>?_)⟩
 have d:=c.head;have h:=c.tail.left.on;have b:=c.tail.right.head;rw [bL] at b
 obtain⟨r,j,v⟩:=n l e (p+1) u h m (mM b.2 (by decide)) (by rw [b.2];decide)
 refine⟨r,⟨26,[],0,L.ix,pl l e p⟩,j,rfl,?_⟩
 have a:∀ g q,p+(bR [91] :: (bN.on g L.pc ++ [q])).length=p+1+L.pc.length+1:=by intro g q;simp [bL];omega
 rw [a] at f ⊢
 exact iL (Ik d.1 d.2 v b.2) f
omit hE in
theorem KD (j:bB){A:j4}{i:List Nd}(h1:vw j.tl A i){g:Bs}{x:Bs}{l:List Tok}{en:Int}{p:Nat}{ns:List Nd}(b:qb l p ((g,1,x) :: bR [58] :: A.pc))(f:ns.length=j.ns.length)(m:lW (tx l (p+(A.pc.length+2)))) :
  ∃ a,a.map strip=i ++ [⟨25,x,0,[A.ix],0⟩]∧Runs l en .put p ns [(A.st.ns.length:Int)] (p+(A.pc.length+2)) (ns ++ a):=by
 have c:=b.head;have k:=b.tail.head;have e:p+1+1+A.pc.length=p+(A.pc.length+2):=by omega
 obtain⟨h,d,n⟩:=h1.expr (en:=en) b.tail.tail f (by rw [e];exact m)
 refine⟨h ++ [⟨25,tx l p,0,[A.ix],pl l en p⟩],by rw [List.map_append,d,c.2];rfl,?_⟩
 have O:(A.st.ns.length:Int)=((ns ++ h).length:Int):=by rw [h1.ns];exact congrArg _ (len_eq f d).symm
 rw [O,← List.append_assoc,← e];exact R5 c.1 k.2 n
theorem KF:∀ (m:Nat) (r:oG),r.ix ≠ []→∃ (J:bN) (f:List Int) (new:List Nd),(dQ ay E m r).pc=r.pc ++ J∧(dQ ay E m r).ix=r.ix ++ f∧(dQ ay E m r).st.ns=r.st.ns ++ new ∧
  ∀ (l:List Tok) (en:Int) (p:Nat) (ns:List Nd),qb l p J→ns.length=r.st.ns.length→lW (tx l (p+J.length))→tx l (p+J.length) ≠ [44] →
   (J=[]∨tx l p=[44])∧∃ a,a.map strip=new∧Runs l en (.eu .put r.ix) p ns (r.ix ++ f) (p+J.length) (ns ++ a)
 | 0,r,_=>⟨[],[],[],by rw [List.append_nil];rfl,by rw [List.append_nil];rfl,by rw [List.append_nil];rfl,fun l en p ns _ _ _ h=>⟨.inl rfl,[],rfl,by
   rw [List.append_nil,List.append_nil];exact wC h⟩⟩
 | m+1,r,hr=>by
  rw [dQ];simp only [hr,if_false];obtain⟨G,h1⟩:=hE (aO ay r.st).tl
  generalize E (aO ay r.st).tl=A at h1
  obtain⟨J,f,new,x,B,C,t⟩:=KF m ⟨r.pc ++ ((bG ay r.st,4,[44]) :: ([],1,aY (aO ay r.st).nx) :: bR [58] :: A.pc),r.ix ++ [A.st.id],A.st.put ⟨25,aY (aO ay r.st).nx,0,[A.ix],0⟩⟩ (by simp);have c:(aO ay r.st).tl.ns=r.st.ns:=by show (aO ay r.st).ns=_;rw [aF]
  refine⟨(bG ay r.st,4,[44]) :: ([],1,aY (aO ay r.st).nx) :: bR [58] :: A.pc ++ J,A.st.id :: f,G ++ [⟨25,aY (aO ay r.st).nx,0,[A.ix],0⟩] ++ new,by rw [x,List.append_assoc],by rw [B];simp,?_,fun l en p ns j u d i=>?_⟩
  ·rw [C];show A.st.ns ++ [_] ++ new=_
   rw [h1.ns,c];simp only [List.append_assoc]
  have n:=j.left.head;have w:=j.left.tail;have g:=j.right;have b:p+((bG ay r.st,4,[44]) :: ([],1,aY (aO ay r.st).nx) :: bR [58] :: A.pc ++ J).length=p+1+(A.pc.length+2)+J.length:=by simp;omega
  rw [show p+((bG ay r.st,4,[44]) :: ([],1,aY (aO ay r.st).nx) :: bR [58] :: A.pc).length=p+1+(A.pc.length+2) by simp;omega] at g
  rw [b] at d i ⊢
  refine⟨.inr n.2,?_⟩
  have k:lW (tx l (p+1+(A.pc.length+2))):=by
   cases J with
   | nil=>exact d
   | cons y J =>
    have:=(t l en (p+1+(A.pc.length+2)) (List.replicate (A.st.put ⟨25,aY (aO ay r.st).nx,0,[A.ix],0⟩).ns.length default) g (by simp) d i).1
    rcases this with h | h
    ·cases h
    ·exact mM h (by decide)
  obtain⟨v,q,H⟩:=KD (aO ay r.st) h1 (en:=en) (ns:=ns) w (by rw [aF];exact u) k
  obtain⟨_,F,D,I⟩:=t l en (p+1+(A.pc.length+2)) (ns ++ v) g (by
   show _=(A.st.ns ++ [_]).length
   rw [h1.ns,c,List.append_assoc];exact len_eq u q) d i
  refine⟨v ++ F,by rw [List.map_append,q,D],?_⟩
  have:=wD (e:=.put) n.2 H I
  simpa only [List.append_assoc,List.cons_append,List.nil_append] using this
theorem aat {x:Bs}(C:x ∈ iX)(b:Nat)(s:bB):∃ new,vw s (BI ay E x b s) new:=by
 unfold BI;rw [Nat.add_comm 1,dQ];simp only [if_true];obtain⟨P,h1⟩:=hE s.tl
 generalize E s.tl=A at h1
 obtain⟨J,S,new,t,H,I,v⟩:=KF ay hE (b % 3) ⟨[] ++ (([],1,aY s.nx) :: bR [58] :: A.pc),[] ++ [A.st.id],A.st.put ⟨25,aY s.nx,0,[A.ix],0⟩⟩ (by simp)
 generalize dQ ay E (b % 3) ⟨[] ++ (([],1,aY s.nx) :: bR [58] :: A.pc),[] ++ [A.st.id],A.st.put ⟨25,aY s.nx,0,[A.ix],0⟩⟩=L at *
 refine⟨P ++ [⟨25,aY s.nx,0,[A.ix],0⟩] ++ new ++ [⟨24,x,0,L.ix,0⟩],yC ?_ (by exact⟨_,_,_,_,rfl,yg C⟩) rfl (fun l c p m g w B=>?_)⟩
 ·rw [aF,I];show A.st.ns ++ [_] ++ new=_
  rw [h1.ns];simp only [List.append_assoc];rfl
 have r:=g.head;have G:=g.tail.head;have j:=g.tail.tail.left;have f:=g.tail.tail.right.head;rw [t,List.nil_append] at j
 have M:L.pc.length=A.pc.length+2+J.length:=by rw [t];simp;omega
 rw [show p+1+1+L.pc.length=p+1+1+(A.pc.length+2)+J.length by omega] at f
 have i:=j.right;rw [show p+1+1+(([],1,aY s.nx) :: bR [58] :: A.pc:bN).length=p+1+1+(A.pc.length+2) by simp] at i
 have a:lW (tx l (p+1+1+(A.pc.length+2)+J.length)):=mM f.2 (by decide);have n:tx l (p+1+1+(A.pc.length+2)+J.length) ≠ [44]:=by rw [f.2];decide
 have k:lW (tx l (p+1+1+(A.pc.length+2))):=by
  cases J with
  | nil=>exact a
  | cons y J =>
   have:=(v l c (p+1+1+(A.pc.length+2)) (List.replicate (A.st.put ⟨25,aY s.nx,0,[A.ix],0⟩).ns.length default) i (by simp) a n).1
   rcases this with h | h
   ·cases h
   ·exact mM h (by decide)
 obtain⟨D,u,Q⟩:=KD s h1 (en:=c) (ns:=m) j.left w k
 obtain⟨_,N,K,R⟩:=v l c (p+1+1+(A.pc.length+2)) (m ++ D) i (by
  show _=(A.st.ns ++ [_]).length
  rw [h1.ns,List.append_assoc];exact len_eq w u) a n
 refine⟨D ++ N,⟨24,tx l p,0,L.ix,pl l c p⟩,by rw [List.map_append,u,K],by rw [r.2];rfl,?_⟩
 have d:∀ q:Bs × Nat × Bs,p+((([]:Bs),1,x) :: bR [123] :: (L.pc ++ [q])).length=p+1+1+(A.pc.length+2)+J.length+1:=by intro q;simp;omega
 rw [d] at B ⊢
 have F:=yQ (e:=.put) Q R;rw [← H] at F
 rw [← List.append_assoc];exact iL (R6 (sG C r) G.2 F f.2) B
theorem op_ep (b:Nat)(s:bB):∃ new,vw s (Ba ay E b s) new:=by
 unfold Ba;split
 ·exact Zc ay hE b s
 ·exact XF ay hE b s
theorem Tz (b:Nat)(s:bB):∃ new,vw s (dZ ay E b s) new:=by
 have a:∀ c:bB,c.ns=s.ns→∀ r:j4,(∃ new,vw c r new)→∃ new,vw s r new:=fun c e r ⟨new,h⟩=>⟨new,by rw [h.ns,e],h.head,fun l f p k g i j=>h.run l f p k g (by rw [e];exact i) j⟩
 have d:=oP s.nx;unfold dZ;simp only
 split
 ·exact a s.tl rfl _ (if_ep ay hE _)
 split
 ·exact a s.tl rfl _ (Y2 ay hE _)
 split
 ·exact a s.tl rfl _ (Tv ay hE d _)
 split
 ·exact a s.tl rfl _ (O8 ay hE _)
 split
 ·exact a s.tl rfl _ (PU ay hE _)
 split
 ·exact a s.tl rfl _ (Oc ay hE _)
 ·exact a s.tl rfl _ (aat ay hE d _ _)
end
theorem vw.tl {s:bB}{r:j4}(h:∃ new,vw s.tl r new):∃ new,vw s r new:=by
 obtain⟨new,h⟩:=h;exact⟨new,h.ns,h.head,h.run⟩
theorem qY (ay:Bool):∀ (d:Nat) (s:bB),∃ new,vw s (bA ay d s) new
 | 0,s=>vw.tl (Kg _ (Nat.mod_lt _ (by decide)) _)
 | d+1,s=>by
  rw [bA];split
  ·rename_i h;exact vw.tl (Kg _ h _)
  split
  ·exact vw.tl (op_ep ay (qY ay d) _ _)
  ·exact vw.tl (Tz ay (qY ay d) _ _)
end Mist
namespace Mist
structure Gt (s:bB) (r:j4) (new:List Nd):Prop where
 ns:r.st.ns=s.ns ++ new
 run:∀ (l:List Tok) (en:Int) (p:Nat) (ns:List Nd),qb l p r.pc→ns.length=s.ns.length→∃ new',new'.map strip=new∧Runs l en .typ p ns [r.ix] (p+r.pc.length) (ns ++ new')
theorem Gt.tl {s:bB}{r:j4}(h:∃ new,Gt s.tl r new):∃ new,Gt s r new:=by
 obtain⟨new,h⟩:=h;exact⟨new,h.ns,h.run⟩
theorem P6 (s:bB):∃ new,Gt s (bJ [([],3,[105,110,116])] s ⟨30,[],0,[],0⟩) new :=
 ⟨_,rfl,fun l en p ns a b=>⟨[⟨30,[],0,[],pl l en p⟩],rfl,by
  show Runs l en .typ p ns [(s.ns.length:Int)] (p+1) _
  rw [← b];exact RI a.head.2⟩⟩
theorem JD (s:bB):∃ new,Gt s (bJ [([],3,[98,111,111,108])] s ⟨31,[],0,[],0⟩) new :=
 ⟨_,rfl,fun l en p ns a b=>⟨[⟨31,[],0,[],pl l en p⟩],rfl,by
  show Runs l en .typ p ns [(s.ns.length:Int)] (p+1) _
  rw [← b];exact M7 a.head.2⟩⟩
theorem Fz (b:Nat)(s:bB):∃ new,Gt s (bJ [([],1,aY b)] s ⟨32,aY b,0,[],0⟩) new :=
 ⟨_,rfl,fun l en p ns c d=>by
  have h0:=c.head;have a:=oP b
  refine⟨[⟨32,tx l p,0,[],pl l en p⟩],by rw [h0.2];rfl,?_⟩
  show Runs l en .typ p ns [(s.ns.length:Int)] (p+1) _
  rw [← d];exact IK h0.1 (by rw [h0.2];exact gZ _ a _ (by decide)) (by rw [h0.2];exact gZ _ a _ (by decide)) (by rw [h0.2];exact gZ _ a _ (by decide))⟩
theorem Ah (ay:Bool):∀ (d:Nat) (s:bB),∃ new,Gt s (bF ay d s) new
 | 0,s=>by
  rw [bF];split
  ·exact Gt.tl (P6 _)
  split
  ·exact Gt.tl (JD _)
  ·exact Gt.tl (Fz _ _)
 | d+1,s=>by
  rw [bF];split
  ·exact Gt.tl (P6 _)
  split
  ·exact Gt.tl (JD _)
  split
  ·exact Gt.tl (Fz _ _)
  ·obtain⟨v,h1⟩:=Ah ay d s.tl;simp only
   generalize bF ay d s.tl=A at h1
   obtain⟨n,u⟩:∃ n,n=1+A.st.nx % 6:=⟨_,rfl⟩;rw [← u];have c:n < 140:=by omega
   refine⟨v ++ [⟨33,[],(n:Int),[A.ix],0⟩],?_,fun l g p k b i=>?_⟩
   ·show (aO ay A.st.tl).ns ++ [_]=_
    rw [aF,← List.append_assoc];show A.st.ns ++ _=_;rw [h1.ns];rfl
   ·have q:=b.head;have m:=b.tail.left;have e:=b.tail.right;have r:=e.head;have f:=e.tail.head;have t:=e.tail.tail.head;obtain⟨j,h,w⟩:=h1.run l g (p+1) k m i
    refine⟨j ++ [⟨33,[],numOf (tx l (p+1+A.pc.length+1)),[A.ix],pl l g p⟩],by rw [List.map_append,h,f.2,(oh c).1];rfl,?_⟩
    have O:(bJ (bR [91] :: (A.pc ++ [(bG ay A.st.tl,4,[59]),([],2,Go.Lib.itoa (n:Int)),bR [93]])) (aO ay A.st.tl) ⟨33,[],(n:Int),[A.ix],0⟩).ix=((k ++ j).length:Int):=by
     show ((aO ay A.st.tl).ns.length:Int)=_
     rw [aF];show (A.st.ns.length:Int)=_
     rw [h1.ns];exact congrArg _ (len_eq i h).symm
    rw [O,← List.append_assoc];have a:p+(bJ (bR [91] :: (A.pc ++ [(bG ay A.st.tl,4,[59]),([],2,Go.Lib.itoa (n:Int)),bR [93]])) (aO ay A.st.tl) ⟨33,[],(n:Int),[A.ix],0⟩).pc.length=p+1+A.pc.length+3:=by simp [bJ];omega
    rw [a];exact R8 q.2 w r.2 f.1 t.2
theorem CJ {s:bB}{A:j4}{h:List Nd}(h1:Gt s A h){g j:Bs}{x:Bs}{l:List Tok}{en:Int}{p:Nat}{ns:List Nd}(b:qb l p ((g,1,x) :: bR [58] :: bN.on j A.pc))(e:ns.length=s.ns.length) :
  ∃ a,a.map strip=h ++ [⟨34,x,0,[A.ix],0⟩]∧Runs l en .param p ns [(A.st.ns.length:Int)] (p+(A.pc.length+2)) (ns ++ a):=by
 have c:=b.head;have i:=b.tail.head;have k:p+1+1+A.pc.length=p+(A.pc.length+2):=by omega
 obtain⟨f,d,m⟩:=h1.run l en (p+1+1) ns b.tail.tail.on e
 refine⟨f ++ [⟨34,tx l p,0,[A.ix],pl l en p⟩],by rw [List.map_append,d,c.2];rfl,?_⟩
 have O:(A.st.ns.length:Int)=((ns ++ f).length:Int):=by rw [h1.ns];exact congrArg _ (len_eq e d).symm
 rw [O,← List.append_assoc,← k];exact IQ c.1 i.2 m
theorem CK (ay:Bool):∀ (m:Nat) (r:oG),r.ix ≠ []→∃ (J:bN) (d:List Int) (new:List Nd),(bE ay m r).pc=r.pc ++ J∧(bE ay m r).ix=r.ix ++ d∧(bE ay m r).st.ns=r.st.ns ++ new ∧
  ∀ (l:List Tok) (en:Int) (p:Nat) (ns:List Nd),qb l p J→ns.length=r.st.ns.length→tx l (p+J.length) ≠ [44]→∃ a,a.map strip=new∧Runs l en (.eu .param r.ix) p ns (r.ix ++ d) (p+J.length) (ns ++ a)
 | 0,r,_=>⟨[],[],[],by rw [List.append_nil];rfl,by rw [List.append_nil];rfl,by rw [List.append_nil];rfl,fun l en p ns _ _ h=>⟨[],rfl,by
   rw [List.append_nil,List.append_nil];exact wC h⟩⟩
 | m+1,r,hr=>by
  rw [bE];simp only [hr,if_false];obtain⟨C,h1⟩:=Ah ay 2 (aO ay r.st).tl
  generalize bF ay 2 (aO ay r.st).tl=A at h1
  have O:(aO ay A.st).id=(A.st.ns.length:Int):=by unfold bB.id;rw [aF]
  rw [O];obtain⟨J,d,new,u,v,w,y⟩:=CK ay m ⟨r.pc ++ (bR [44] :: (bG ay r.st,1,aY (aO ay r.st).nx) :: bR [58] :: bN.on (bG ay A.st) A.pc),r.ix ++ [(A.st.ns.length:Int)],(aO ay A.st).put ⟨34,aY (aO ay r.st).nx,0,[A.ix],0⟩⟩ (by simp);have b:(aO ay r.st).tl.ns=r.st.ns:=by show (aO ay r.st).ns=_;rw [aF]
  refine⟨bR [44] :: (bG ay r.st,1,aY (aO ay r.st).nx) :: bR [58] :: bN.on (bG ay A.st) A.pc ++ J,(A.st.ns.length:Int) :: d,C ++ [⟨34,aY (aO ay r.st).nx,0,[A.ix],0⟩] ++ new,by rw [u,List.append_assoc],by rw [v];simp,?_,fun l en p ns f k i=>?_⟩
  ·rw [w];show (aO ay A.st).ns ++ [_] ++ new=_
   rw [aF,h1.ns,b];simp only [List.append_assoc]
  have t:=f.left.head;have q:=f.left.tail;have g:=f.right;have c:p+(bR [44] :: (bG ay r.st,1,aY (aO ay r.st).nx) :: bR [58] :: bN.on (bG ay A.st) A.pc ++ J).length=p+1+(A.pc.length+2)+J.length:=by simp [bL];omega
  rw [show p+(bR [44] :: (bG ay r.st,1,aY (aO ay r.st).nx) :: bR [58] :: bN.on (bG ay A.st) A.pc).length=p+1+(A.pc.length+2) by simp [bL];omega] at g
  rw [c] at i ⊢
  obtain⟨n,j,D⟩:=CJ h1 (en:=en) (ns:=ns) q (by rw [b];exact k)
  obtain⟨B,x,F⟩:=y l en (p+1+(A.pc.length+2)) (ns ++ n) g (by
   show _=((aO ay A.st).ns ++ [_]).length
   rw [aF,h1.ns,b,List.append_assoc];exact len_eq k j) i
  refine⟨n ++ B,by rw [List.map_append,j,x],?_⟩
  have:=wD (e:=.param) t.2 D F
  simpa only [List.append_assoc,List.cons_append,List.nil_append] using this
theorem Bb (ay:Bool)(m:Nat)(s:bB):∃ new:List Nd,(bE ay (m+1) ⟨[],[],s⟩).st.ns=s.ns ++ new∧(∃ x R,x ∈ iX∧(bE ay (m+1) ⟨[],[],s⟩).pc=([],1,x) :: R) ∧
  ∀ (l:List Tok) (en:Int) (p:Nat) (ns:List Nd),qb l p (bE ay (m+1) ⟨[],[],s⟩).pc→ns.length=s.ns.length→tx l (p+(bE ay (m+1) ⟨[],[],s⟩).pc.length) ≠ [44] →
   ∃ a,a.map strip=new∧Runs l en (.list .param) p ns (bE ay (m+1) ⟨[],[],s⟩).ix (p+(bE ay (m+1) ⟨[],[],s⟩).pc.length) (ns ++ a):=by
 rw [bE];simp only [if_true];obtain⟨u,h1⟩:=Ah ay 2 s.tl
 generalize bF ay 2 s.tl=A at h1
 have O:(aO ay A.st).id=(A.st.ns.length:Int):=by unfold bB.id;rw [aF]
 rw [O];obtain⟨J,y,new,b,k,n,r⟩:=CK ay m ⟨[] ++ (([],1,aY s.nx) :: bR [58] :: bN.on (bG ay A.st) A.pc),[] ++ [(A.st.ns.length:Int)],(aO ay A.st).put ⟨34,aY s.nx,0,[A.ix],0⟩⟩ (by simp)
 generalize bE ay m ⟨[] ++ (([],1,aY s.nx) :: bR [58] :: bN.on (bG ay A.st) A.pc),[] ++ [(A.st.ns.length:Int)],(aO ay A.st).put ⟨34,aY s.nx,0,[A.ix],0⟩⟩=L at *
 refine⟨u ++ [⟨34,aY s.nx,0,[A.ix],0⟩] ++ new,?_,⟨aY s.nx,_,oP _,by rw [b];rfl⟩,fun l en p ns c i g=>?_⟩
 ·rw [n];show (aO ay A.st).ns ++ [_] ++ new=_
  rw [aF,h1.ns];simp only [List.append_assoc];rfl
 ·have d:p+L.pc.length=p+(A.pc.length+2)+J.length:=by rw [b];simp [bL];omega
  rw [d] at g ⊢
  rw [b,List.nil_append] at c
  have f:=c.right;rw [show p+(([],1,aY s.nx) :: bR [58] :: bN.on (bG ay A.st) A.pc:bN).length=p+(A.pc.length+2) by simp [bL]] at f
  obtain⟨j,h,v⟩:=CJ h1 (en:=en) (ns:=ns) c.left i
  obtain⟨t,q,w⟩:=r l en (p+(A.pc.length+2)) (ns ++ j) f (by
   show _=((aO ay A.st).ns ++ [_]).length
   rw [aF,h1.ns,List.append_assoc];exact len_eq i h) g
  refine⟨j ++ t,by rw [List.map_append,h,q],?_⟩
  rw [k,← List.append_assoc];exact yQ (e:=.param) v w
structure IP (s:bB) (r:j4) (new:List Nd):Prop where
 ns:r.st.ns=s.ns ++ new
 run:∀ (l:List Tok) (en:Int) (p:Nat) (ns:List Nd),qb l p r.pc→ns.length=s.ns.length→tx l (p+r.pc.length)=[59]→∃ new' n0,new'.map strip=new∧∀ n,n0≤n→item l en n p ns=some (.ok [r.ix] (p+r.pc.length) (ns ++ new'))
theorem qU {t:Bs}(h:t=[59]):lW t:=mM h (by decide)
theorem ql {s:bB}{I:bN}{d:bB}{n:Nd}{new:List Nd}(b:d.ns=s.ns ++ new)
  (q:∀ (l:List Tok) (en:Int) (p:Nat) (ns:List Nd),qb l p I→ns.length=s.ns.length→tx l (p+I.length)=[59]→∃ a c e,a.map strip=new∧strip c=n∧∀ m,e≤m→item l en m p ns=Mist.add c (p+I.length) (ns ++ a)):IP s (bJ I d n) (new ++ [n]):=by
 refine⟨?_,fun l en p ns j g r=>?_⟩
 ·show d.ns ++ [n]=_
  rw [b,List.append_assoc]
 ·obtain⟨a,c,e,f,h,i⟩:=q l en p ns j g r
  refine⟨a ++ [c],e,by rw [List.map_append,f];show new ++ [strip c]=_;rw [h],fun m k=>?_⟩
  have O:(bJ I d n).ix=((ns ++ a).length:Int):=by
   show (d.ns.length:Int)=_
   rw [b,len_eq g f]
  rw [O,← List.append_assoc,i m k];rfl
theorem Cn {l:List Tok}{en:Int}{p n:Nat}{ns:List Nd}{w:Bs}{i:It}(h:(tg l p).kind=3∧tx l p=w)(hi:Hr w=some i):item l en n p ns=gI l en n i p ns:=by
 unfold item;rw [if_pos h.1,h.2,hi]
theorem PX {l:List Tok}{en:Int}{p:Nat}{ns:List Nd}(n:Int)(h1:-140 < n)(h2:n < 140)(a:qb l p (fE n)):sN l en p ns=some (.ok [(ns.length:Int)] (p+(fE n).length) (ns ++ [⟨1,[],n,[],pl l en p⟩])):=by
 unfold fE at a ⊢
 split
 ·rename_i h
  rw [if_pos h] at a
  obtain⟨m,c⟩:∃ m:Nat,-n=(m:Int):=⟨(-n).toNat,by omega⟩;rw [c] at a
  have b:=a.head;have d:=a.tail.head;unfold sN;rw [if_pos b.2]
  show ite ((tg l (p+1)).kind=2) _ _=_
  rw [if_pos d.1,d.2,(oh (n:=m) (by omega)).1,← c,Int.neg_neg];rfl
 ·rename_i h
  rw [if_neg h] at a
  obtain⟨m,c⟩:∃ m:Nat,n=(m:Int):=⟨n.toNat,by omega⟩;subst c;have b:=a.head;have hd:=oh (n:=m) (by omega);unfold sN;rw [if_neg (by rw [b.2];exact hd.2.neg)]
  show ite ((tg l p).kind=2) _ _=_
  rw [if_pos b.1,b.2,hd.1];rfl
theorem K4 (ay:Bool){x:Bs}(s:bB):∃ new,IP s (mh ay x s) new:=by
 unfold mh;obtain⟨low,e⟩:∃ low:Int,low=((s.nx % 30:Nat):Int) - 15:=⟨_,rfl⟩;simp only [← e];obtain⟨c,f⟩:∃ c:Int,c=low+(((bX low s.tl).st.nx % 12:Nat):Int):=⟨_,rfl⟩;rw [← f]
 refine⟨[⟨1,[],low,[],0⟩,⟨1,[],c,[],0⟩] ++ [⟨40,x,0,_,0⟩],ql (by
  rw [aF,aF,aF]
  show (s.ns ++ [_]) ++ [_]=_
  rw [List.append_assoc];rfl) (fun l a p b d v w=>?_)⟩
 have n:=d.head;have h:=d.tail.head;have q:=d.tail.tail.head;have j:qb l (p+1+1+1) (fE low):=d.tail.tail.tail.left.on;have g:=d.tail.tail.tail.right;rw [bL] at g
 have r:_∧tx l (p+1+1+1+(fE low).length)=[46,46]:=g.head;have k:qb l (p+1+1+1+(fE low).length+1) (fE c):=g.tail.on
 refine⟨[⟨1,[],low,[],pl l a (p+1+1+1)⟩,⟨1,[],c,[],pl l a (p+1+1+1+(fE low).length+1)⟩],⟨40,tx l (p+1),0,[(b.length:Int),((b.length+1:Nat):Int)],pl l a p⟩,0,rfl,?_,fun m _=>?_⟩
 ·rw [h.2]
  show (⟨40,x,0,[(b.length:Int),((b.length+1:Nat):Int)],0⟩:Nd)=⟨40,x,0,[(s.ns.length:Int),(((s.ns ++ [_]).length:Nat):Int)],0⟩
  rw [v,aaO];rfl
 ·rw [Cn n (i:=.choose) (by decide)];unfold gI
  show ite ((tg l (p+1)).kind=1) _ _=_
  rw [if_pos h.1]
  show ite (tx l (p+2)=[58]) _ _=_
  rw [if_pos q.2];have t:=PX (en:=a) (ns:=b) low (by omega) (by omega) j;have u:=PX (en:=a) (ns:=b ++ [⟨1,[],low,[],pl l a (p+1+1+1)⟩]) c (by omega) (by omega) k
  show thn (sN l a (p+1+1+1) b) _=_
  rw [t]
  show ite (tx l (p+1+1+1+(fE low).length)=[46,46]) (thn (sN l a (p+1+1+1+(fE low).length+1) (b ++ [⟨1,[],low,[],pl l a (p+1+1+1)⟩])) _) _=_
  rw [if_pos r.2,u]
  show Mist.add (⟨40,tx l (p+1),0,[hd [(b.length:Int)],hd [((b ++ [(⟨1,[],low,[],pl l a (p+1+1+1)⟩:Nd)]).length:Int)]],pl l a p⟩:Nd) (p+1+1+1+(fE low).length+1+(fE c).length) (b ++ [_] ++ [_])=_
  refine congr (congr (congrArg Mist.add ?_) ?_) ?_
  ·simp [hd]
  ·simp [bL,bX,bJ];omega
  ·simp
theorem Vm (ay:Bool){x:Bs}(s:bB):∃ new,IP s (xW ay x s) new:=by
 unfold xW;rw [Nat.add_comm 1];obtain⟨new,n,_,u⟩:=Bb ay (s.nx % 6) s.tl;simp only
 generalize bE ay (s.nx % 6+1) ⟨[],[],s.tl⟩=L at *
 refine⟨new ++ [⟨41,x,0,L.ix,0⟩],ql (by rw [n];rfl) (fun l c p f a r G=>?_)⟩
 have h:=a.head;have d:=a.tail.head;have j:=a.tail.tail.head;have k:=a.tail.tail.tail.head;have g:=a.tail.tail.tail.tail.left;have e:=a.tail.tail.tail.tail.right.head;obtain⟨v,q,w,F⟩:=u l c (p+1+1+1+1) f g r (by rw [e.2];decide)
 refine⟨v,⟨41,tx l (p+1),0,L.ix,pl l c p⟩,w,q,by rw [d.2];rfl,fun m t=>?_⟩
 rw [Cn h (i:=.record) (by decide)];unfold gI
 show ite ((tg l (p+1)).kind=1) _ _=_
 rw [if_pos d.1]
 show ite (tx l (p+2)=[61]) _ _=_
 rw [if_pos j.2]
 show ite (tx l (p+3)=[123]) _ _=_
 rw [if_pos k.2]
 show thn (run l c m (.list .param) (p+1+1+1+1) f) _=_
 rw [eF F t]
 show ite (tx l (p+1+1+1+1+L.pc.length)=[125]) _ _=_
 rw [if_pos e.2];have b:∀ y A B C D:Bs × Nat × Bs,p+(y :: A :: B :: C :: (L.pc ++ [D])).length=p+1+1+1+1+L.pc.length+1:=by intros;simp;omega
 rw [b]
theorem Sm (s:bB):mV s < 9:=by unfold mV;split <;> omega
theorem L9:∀ n:Fin 9,0 < n.val→Go.Lib.itoa ((n.val:Nat):Int) ≠ [48]:=by decide +kernel
theorem EN {l:List Tok}{en:Int}{k p:Nat}{ns:List Nd}{ps:List Int}{t:Int}{u:Nat}{e:bB}{B:j4}{d:List Nd}(i:vw e B d){g:Bs}(c:qb l p ((g,4,[61]) :: B.pc))(j:ns.length=e.ns.length)(q:tx l (p+1+B.pc.length)=[59]) :
  ∃ a b,a.map strip=d∧∀ m,b≤m→kU l en m k ps t u p ns=Mist.add ⟨42,tx l (k+1),u,ps ++ [t] ++ [B.ix],pl l en k⟩ (p+1+B.pc.length) (ns ++ a):=by
 have f:=c.head;obtain⟨r,h,b,v⟩:=i.expr (en:=en) (ns:=ns) c.tail j (qU q)
 refine⟨r,b,h,fun m n=>?_⟩
 unfold kU
 show ite (tx l p=[61]) _ _=_
 rw [if_pos f.2,eF v n];rfl
theorem EO (ay:Bool){l:List Tok}{en:Int}{k p:Nat}{ns:List Nd}{ps:List Int}{R C:bB}{K B:j4}{P N:List Nd}(I:Gt R K P)(H:vw C B N)(x:C.ns=K.st.ns){T U r v:Bs}(n:Nat)(W:n < 9)
  (h:qb l p ((T,4,[41]) :: (U,4,[58]) :: (K.pc ++ ((if 0 < n then [(r,3,([117,112,116,111]:Bs)),(v,2,Go.Lib.itoa (n:Int))] else []) ++ (bG ay (aO ay (aO ay B.st)),4,[61]) :: B.pc)))) (J:ns.length=R.ns.length)
  {e:Nat} (w:e=p+2+K.pc.length+(if 0 < n then 2 else 0)+1+B.pc.length) (L:tx l e=[59]) :
  ∃ a X,a.map strip=P ++ N∧∀ m,X≤m→mg l en m k ps p ns=Mist.add ⟨42,tx l (k+1),(n:Int),ps ++ [K.ix] ++ [B.ix],pl l en k⟩ e (ns ++ a):=by
 have F:=h.head;have G:=h.tail.head;have i:=h.tail.tail.left;have b:=h.tail.tail.right;obtain⟨d,j,M,Q⟩:=I.run l en (p+1+1) ns i J;have f:(ns ++ d).length=C.ns.length:=by rw [x,I.ns];exact len_eq J j
 by_cases h0:0 < n
 ·rw [if_pos h0] at b w
  have Y:=b.left.head;have D:=b.left.tail.head;have S:=b.right;obtain⟨g,y,q,A⟩:=EN (k:=k) (ps:=ps) (t:=K.ix) (u:=n) H (en:=en) S f (by rw [show p+1+1+K.pc.length+[(r,3,([117,112,116,111]:Bs)),(v,2,Go.Lib.itoa (n:Int))].length+1+B.pc.length=e by rw [w];simp];exact L)
  refine⟨d ++ g,max M y,by rw [List.map_append,j,q],fun m V=>?_⟩
  have c:tx l (p+1+1+K.pc.length+1) ≠ [48]:=by rw [D.2];exact L9 ⟨n,W⟩ h0
  unfold mg
  show ite (tx l p=[41]) _ _=_
  rw [if_pos F.2]
  show ite (tx l (p+1)=[58]) _ _=_
  rw [if_pos G.2]
  show thn (run l en m .typ (p+1+1) ns) _=_
  rw [eF Q (by omega)]
  show ite (tx l (p+1+1+K.pc.length)=[117,112,116,111]) (ite (tx l (p+1+1+K.pc.length+1)=[48]) _ (ite ((tg l (p+1+1+K.pc.length+1)).kind=2) (kU l en m k ps K.ix (numOf (tx l (p+1+1+K.pc.length+1)):Nat) (p+1+1+K.pc.length+2) (ns ++ d)) _)) _=_
  rw [if_pos Y.2,if_neg c,if_pos D.1,D.2,(oh (n:=n) (by omega)).1]
  have:=A m (by omega)
  rw [show p+1+1+K.pc.length+[(r,3,([117,112,116,111]:Bs)),(v,2,Go.Lib.itoa (n:Int))].length=p+1+1+K.pc.length+2 by simp] at this
  rw [this,List.append_assoc ns d g,show p+1+1+K.pc.length+2+1+B.pc.length=e by omega]
 ·obtain rfl:n=0:=by omega
  rw [if_neg h0] at b w
  rw [List.nil_append] at b
  obtain⟨g,y,q,A⟩:=EN (k:=k) (ps:=ps) (t:=K.ix) (u:=0) H (en:=en) b f (by rw [show p+1+1+K.pc.length+1+B.pc.length=e by omega];exact L)
  refine⟨d ++ g,max M y,by rw [List.map_append,j,q],fun m V=>?_⟩
  unfold mg
  show ite (tx l p=[41]) _ _=_
  rw [if_pos F.2]
  show ite (tx l (p+1)=[58]) _ _=_
  rw [if_pos G.2]
  show thn (run l en m .typ (p+1+1) ns) _=_
  rw [eF Q (by omega)]
  show ite (tx l (p+1+1+K.pc.length)=[117,112,116,111]) _ (kU l en m k ps K.ix 0 (p+1+1+K.pc.length) (ns ++ d))=_
  rw [if_neg (by rw [b.head.2];decide)]
  have:=A m (by omega)
  rw [show ((0:Nat):Int)=0 from rfl] at this
  rw [this,List.append_assoc ns d g,show p+1+1+K.pc.length+1+B.pc.length=e by omega];rfl
theorem Y0 (ay:Bool){x:Bs}(s:bB):∃ new,IP s (zS ay x s) new:=by
 unfold zS;simp only
 obtain⟨P,h⟩:∃ P,P=bE ay (s.nx % 5) ⟨[],[],s.tl⟩:=⟨_,rfl⟩;rw [← h];obtain⟨U,v⟩:=Ah ay 2 P.st
 generalize bF ay 2 P.st=K at *
 have Q:=Sm K.st
 generalize mV K.st=n at *
 obtain⟨r,g⟩:∃ r,r=if 0 < n then aO ay K.st.tl else K.st.tl:=⟨_,rfl⟩
 rw [← g];have t:r.ns=K.st.ns:=by rw [g];split;rw [aF];rfl;rfl
 obtain⟨T,u⟩:=qY ay 4 r
 generalize bA ay 4 r=B at *
 clear g;rcases q:s.nx % 5 with _ | m
 ·rw [q] at h
  obtain rfl:P=⟨[],[],s.tl⟩:=h
  refine⟨U ++ T ++ [⟨42,x,(n:Int),[] ++ [K.ix,B.ix],0⟩],ql (by rw [aF,aF,aF,u.ns,t,v.ns,List.append_assoc];rfl) (fun l b p e d w I=>?_)⟩
  have D:=d.head;have j:=d.tail.head;have F:=d.tail.tail.head;have a:=d.tail.tail.tail;rw [List.nil_append] at a
  obtain⟨C,J,H,L⟩:=EO ay (k:=p) (ps:=[]) v u t n Q (en:=b) (ns:=e) a w rfl (by
   rw [← I];congr 1;split <;> simp <;> omega)
  refine⟨C,⟨42,tx l (p+1),(n:Int),[] ++ [K.ix] ++ [B.ix],pl l b p⟩,J,H,by rw [j.2];rfl,fun m q=>?_⟩
  rw [Cn D (i:=.zu) (by decide)];unfold gI
  show ite ((tg l (p+1)).kind=1) _ _=_
  rw [if_pos j.1]
  show ite (tx l (p+2)=[40]) (ite (tx l (p+3)=[41]) (mg l b m p [] (p+3) e) _) _=_
  rw [if_pos F.2,if_pos a.head.2]
  have:=L m q
  rw [show p+1+1+1=p+3 by omega] at this
  rw [this]
  congr 1
  split <;> simp <;> omega
 ·rw [q] at h
  obtain⟨new,G,⟨y,R,hy,M⟩,S⟩:=Bb ay m s.tl;rw [← h] at G M S
  clear h
  refine⟨new ++ U ++ T ++ [⟨42,x,(n:Int),P.ix ++ [K.ix,B.ix],0⟩],ql (by rw [aF,aF,aF,u.ns,t,v.ns,G];simp only [List.append_assoc];rfl) (fun l b p e d w I=>?_)⟩
  have D:=d.head;have j:=d.tail.head;have F:=d.tail.tail.head;have f:=d.tail.tail.tail.left;have a:=d.tail.tail.tail.right;obtain⟨A,N,V,W⟩:=S l b (p+1+1+1) e f w (by rw [a.head.2];decide)
  obtain⟨C,J,H,L⟩:=EO ay (k:=p) (ps:=P.ix) v u t n Q (en:=b) (ns:=e ++ A) a (by rw [G];exact len_eq w N) rfl (by
   rw [← I];congr 1;split <;> simp <;> omega)
  refine⟨A ++ C,⟨42,tx l (p+1),(n:Int),P.ix ++ [K.ix] ++ [B.ix],pl l b p⟩,max J V,by rw [List.map_append,N,H,List.append_assoc],by rw [j.2,List.append_assoc];rfl,fun m q=>?_⟩
  rw [Cn D (i:=.zu) (by decide)];unfold gI;have c:tx l (p+1+1+1) ≠ [41]:=by rw [M] at f;rw [f.head.2];exact (yg hy).shut
  show ite ((tg l (p+1)).kind=1) _ _=_
  rw [if_pos j.1]
  show ite (tx l (p+2)=[40]) (ite (tx l (p+1+1+1)=[41]) _ (thn (run l b m (.list .param) (p+1+1+1) e) _)) _=_
  rw [if_pos F.2,if_neg c,eF W (by omega)]
  show mg l b m p P.ix (p+1+1+1+P.pc.length) (e ++ A)=_
  rw [L m (by omega),List.append_assoc e A C]
  congr 1
  split <;> simp <;> omega
theorem Y3 (ay:Bool){x:Bs}(s:bB):∃ new,IP s (mG ay x s) new:=by
 unfold mG;obtain⟨w,f⟩:=qY ay 4 s;simp only
 generalize bA ay 4 s=B at *
 refine⟨w ++ [⟨43,x,0,[B.ix],0⟩],ql (by rw [aF,f.ns]) (fun l b p d c r h=>?_)⟩
 have k:=c.head;have e:=c.tail.head;have n:=c.tail.tail.head;have j:=c.tail.tail.tail.on;have a:∀ (g:Bs) (y A C:Bs × Nat × Bs),p+(y :: A :: C :: bN.on g B.pc).length=p+1+1+1+B.pc.length:=by intros;simp [bL];omega
 rw [a] at h ⊢
 obtain⟨u,q,v,D⟩:=f.expr (en:=b) (ns:=d) j r (qU h)
 refine⟨u,⟨43,tx l (p+1),0,[B.ix],pl l b p⟩,v,q,by rw [e.2];rfl,fun m t=>?_⟩
 rw [Cn k (i:=.yB) (by decide)];unfold gI
 show ite ((tg l (p+1)).kind=1) _ _=_
 rw [if_pos e.1]
 show ite (tx l (p+2)=[61]) (thn (run l b m .expr (p+1+1+1) d) _) _=_
 rw [if_pos n.2,eF D t];rfl
theorem Ho (ay:Bool){x:Bs}(s:bB):∃ new,IP s (mH ay x s) new:=by
 unfold mH;obtain⟨v,f⟩:=qY ay 4 s;simp only
 generalize bA ay 4 s=B at *
 refine⟨v ++ [⟨44,x,0,[B.ix],0⟩],ql (by rw [aF,f.ns]) (fun l b p d c q g=>?_)⟩
 have j:=c.head;have e:=c.tail.head;have k:=c.tail.tail.head;have h:=c.tail.tail.tail;have a:∀ (w y A:Bs × Nat × Bs),p+(w :: y :: A :: B.pc).length=p+1+1+1+B.pc.length:=by intros;simp;omega
 rw [a] at g ⊢
 obtain⟨t,n,u,C⟩:=f.expr (en:=b) (ns:=d) h q (qU g)
 refine⟨t,⟨44,tx l (p+1),0,[B.ix],pl l b p⟩,u,n,by rw [e.2];rfl,fun m r=>?_⟩
 rw [Cn j (i:=.observe) (by decide)];unfold gI
 show ite ((tg l (p+1)).kind=1) _ _=_
 rw [if_pos e.1]
 show ite (tx l (p+2)=[58]) (thn (run l b m .expr (p+1+1+1) d) _) _=_
 rw [if_pos k.2,eF C r];rfl
theorem Ih (ay:Bool){x:Bs}(s:bB):∃ new,IP s (mK ay x s) new:=by
 unfold mK
 refine⟨[] ++ [⟨45,x,0,[],0⟩],ql (by rw [aF,List.append_nil]) (fun l d p h b e g=>?_)⟩
 have c:=b.head;have a:=b.tail.head
 refine⟨[],⟨45,tx l (p+1),0,[],pl l d p⟩,0,rfl,by rw [a.2];rfl,fun m f=>?_⟩
 rw [Cn c (i:=.kW) (by decide)];unfold gI
 show ite ((tg l (p+1)).kind=1) _ _=_
 rw [if_pos a.1,List.append_nil];rfl
theorem queries:∀ q:Fin 8,gy (sg iB (q.val+1))=q.val+1:=by decide
theorem XD (ay:Bool)(q:Nat)(h1:1≤q)(h8:q≤8)(s:bB):∃ new,IP s (o8 ay q s) new:=by
 unfold o8;simp only
 have r:gy (sg iB q)=q:=by
  have:=queries ⟨q - 1,by omega⟩
  rwa [show q - 1+1=q by omega] at this
 by_cases h7:q=7
 ·subst h7;simp only [if_true,show ¬ ((7:Nat)=8) by decide,if_false]
  refine⟨[] ++ [⟨46,[],7,[],0⟩],ql (by rw [aF,List.append_nil];rfl) (fun l a p d c j e=>?_)⟩
  have f:=c.head;have h:=c.tail.head
  refine⟨[],⟨46,[],7,[],pl l a p⟩,0,rfl,rfl,fun m k=>?_⟩
  rw [Cn f (i:=.ask) (by decide)]
  show wT l a m p d=_
  unfold wT;rw [h.2,r,List.append_nil];rfl
 by_cases h88:q=8
 ·subst h88;simp only [show ¬ ((8:Nat)=7) by decide,if_true,if_false];rw [Nat.add_comm 1];obtain⟨new,D,_,F⟩:=A9 ay (qY ay 3) (s.nx % 4) s.tl
  generalize bK ay (bA ay 3) (s.nx % 4+1) ⟨[],[],s.tl⟩=L at *
  refine⟨new ++ [⟨46,[],8,L.ix,0⟩],ql (by rw [aF,D];rfl) (fun l a p d c j e=>?_)⟩
  have f:=c.head;have h:=c.tail.head;have A:=c.tail.tail.on;have b:∀ (g:Bs) (v w:Bs × Nat × Bs),p+(v :: w :: bN.on g L.pc).length=p+1+1+L.pc.length:=by intros;simp [bL];omega
  rw [b] at e ⊢
  obtain⟨t,n,u,x⟩:=F l a (p+1+1) d A j (qU e) (by rw [e];decide)
  refine⟨t,⟨46,[],8,L.ix,pl l a p⟩,u,n,rfl,fun m k=>?_⟩
  rw [Cn f (i:=.ask) (by decide)]
  show wT l a m p d=_
  unfold wT;rw [h.2,r]
  show thn (run l a m (.list .expr) (p+1+1) d) _=_
  rw [eF x k];rfl
 ·simp only [h7,h88,if_false];rw [bK,if_pos rfl,bK];obtain⟨G,y⟩:=qY ay 3 s;simp only [List.nil_append]
  generalize bA ay 3 s=B at *
  refine⟨G ++ [⟨46,[],(q:Int),[B.ix],0⟩],ql (by rw [aF,y.ns]) (fun l a p d c j e=>?_)⟩
  have f:=c.head;have h:=c.tail.head;have C:=c.tail.tail.on;have b:∀ (g:Bs) (v w:Bs × Nat × Bs),p+(v :: w :: bN.on g B.pc).length=p+1+1+B.pc.length:=by intros;simp [bL];omega
  rw [b] at e ⊢
  obtain⟨t,n,u,x⟩:=y.expr (en:=a) (ns:=d) C j (qU e)
  refine⟨t,⟨46,[],(q:Int),[B.ix],pl l a p⟩,u,n,rfl,fun m k=>?_⟩
  rw [Cn f (i:=.ask) (by decide)]
  show wT l a m p d=_
  unfold wT;rw [h.2,r,if_neg (by omega),if_neg h7,if_neg h88]
  show thn (run l a m .expr (p+1+1) d) _=_
  rw [eF x k];rfl
theorem P7 (ay:Bool)(s:bB):∃ new,IP s (cO ay s) new:=by
 have a:∀ b:bB,b.ns=s.ns→∀ r:j4,(∃ new,IP b r new)→∃ new,IP s r new:=fun b e r ⟨new,h⟩=>⟨new,by rw [h.ns,e],fun l c p i d f g=>h.run l c p i d (by rw [e];exact f) g⟩
 unfold cO;simp only
 split
 ·exact a s.tl.tl rfl _ (K4 ay _)
 split
 ·exact a s.tl.tl rfl _ (Vm ay _)
 split
 ·exact a s.tl.tl rfl _ (Y0 ay _)
 split
 ·exact a s.tl.tl rfl _ (Y3 ay _)
 split
 ·exact a s.tl.tl rfl _ (Ho ay _)
 split
 ·exact a s.tl.tl rfl _ (Ih ay _)
 ·exact a s.tl.tl.tl rfl _ (XD ay _ (by omega) (by omega) _)
theorem JW (ay:Bool):∀ (m:Nat) (r:oG),∃ (J:bN) (e:List Int) (new:List Nd),(jH ay m r).pc=r.pc ++ J∧(jH ay m r).ix=r.ix ++ e∧(jH ay m r).st.ns=r.st.ns ++ new∧e.length≤m ∧
  ∀ (l:List Tok) (en:Int) (p:Nat) (ns:List Nd),qb l p J→ns.length=r.st.ns.length→l.length=p+J.length→∃ a i,a.map strip=new∧∀ n,i≤n→prog l en n (m+1) p ns r.ix=some (.ok (r.ix ++ e) l.length (ns ++ a))
 | 0,r=>⟨[],[],[],by rw [List.append_nil];rfl,by rw [List.append_nil];rfl,by rw [List.append_nil];rfl,aaJ _,fun l en p ns _ _ h=>⟨[],0,rfl,fun n _=>by
   rw [prog,if_neg (by simp at h;omega),List.append_nil,List.append_nil,show l.length=p by simpa using h]⟩⟩
 | m+1,r=>by
  rw [jH];split
  ·exact⟨[],[],[],by rw [List.append_nil],by rw [List.append_nil],by rw [List.append_nil],aaL _,fun l en p ns _ _ h=>⟨[],0,rfl,fun n _=>by
    rw [prog,if_neg (by simp at h;omega),List.append_nil,List.append_nil,show l.length=p by simpa using h]⟩⟩
  ·unfold dH;obtain⟨D,h1⟩:=P7 ay r.st;simp only
   generalize cO ay r.st=A at h1
   generalize dY r.st ++ bG ay A.st=g
   obtain⟨J,e,new,v,w,x,I,B⟩:=JW ay m ⟨r.pc ++ (if r.ix=[] then A.pc ++ [(g,4,[59])] else bN.on [10] (A.pc ++ [(g,4,[59])])),r.ix ++ [A.ix],aO ay A.st⟩
   refine⟨(if r.ix=[] then A.pc ++ [(g,4,[59])] else bN.on [10] (A.pc ++ [(g,4,[59])])) ++ J,A.ix :: e,D ++ new,by rw [v,List.append_assoc],by rw [w];simp,by rw [x];show (aO ay A.st).ns ++ new=_;rw [aF,h1.ns,List.append_assoc],by simp;omega,fun l en p ns t u c=>?_⟩
   have d:(if r.ix=[] then A.pc ++ [(g,4,[59])] else bN.on [10] (A.pc ++ [(g,4,[59])])).length=A.pc.length+1:=by split <;> simp [bL]
   have b:qb l p (A.pc ++ [(g,4,[59])]):=by
    have h:=t.left;split at h
    ·exact h
    ·exact h.on
   have j:=t.right;rw [d] at j
   rw [aaO,d] at c
   have k:=b.right.head;obtain⟨f,i,q,G⟩:=h1.run l en p ns b.left u k.2;obtain⟨C,F,y,H⟩:=B l en (p+(A.pc.length+1)) (ns ++ f) j (by show _=(aO ay A.st).ns.length;rw [aF,h1.ns];exact len_eq u q) (by omega)
   refine⟨f ++ C,max i F,by rw [List.map_append,q,y],fun n K=>?_⟩
   rw [prog,if_pos (by omega),G n (by omega)]
   show ite (tx l (p+A.pc.length)=[59]) (prog l en n (m+1) (p+A.pc.length+1) (ns ++ f) (r.ix ++ [A.ix])) _=_
   rw [if_pos k.2]
   have:=H n (by omega)
   rw [show p+(A.pc.length+1)=p+A.pc.length+1 by omega] at this
   rw [this];simp only [List.append_assoc,List.cons_append,List.nil_append]
theorem En (I:bN):qb (fO 0 I) 0 I:=fun i g k t e=>by
 rw [Nat.zero_add]
 have:∀ (its:List (Bs × Nat × Bs)) (a p:Nat),its[p]? = some (g,k,t)→(tg (fO a its) p).kind=k∧tx (fO a its) p=t:=by
  intro its
  induction its with
  | nil=>intro a p h;simp at h
  | cons y r d =>
   obtain⟨b,f,c⟩:=y;intro a p h
   cases p with
   | zero =>
    have h:(b,f,c)=(g,k,t):=by simpa using h
    injection h with h1 h2;injection h2 with h2 h3;subst h2;subst h3
    exact⟨rfl,rfl⟩
   | succ p=>exact d (a+b.length+c.length) p (by simpa using h)
 exact this I 0 i e
theorem CZ (ay:Bool)(b:Bs)(en:Int):∃ a n,a.map strip=(grown ay b).st.ns∧(grown ay b).ix.length≤12∧prog (fO 0 (grown ay b).pc) en n 13 0 [] []=some (.ok (grown ay b).ix (fO 0 (grown ay b).pc).length a):=by
 unfold grown;obtain⟨J,k,new,c,d,e,g,i⟩:=JW ay 12 ⟨[],[],⟨b,[]⟩⟩;rw [List.nil_append] at c d e
 rw [c,d,e];obtain⟨a,f,h,j⟩:=i (fO 0 J) en 0 [] (En J) rfl (by rw [mW];simp);exact⟨a,f,h,g,by simpa using j f (aaJ _)⟩
end Mist
