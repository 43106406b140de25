/-
  A part of the proof.
-/
import Derived.Test.YthepmkjggfijoaaGreatDoorSA
import Derived.Test.YthepmkjggfijoaaGreatDoorW04
set_option linter.all false
set_option maxRecDepth 100000
namespace Mist
theorem len_eq {ns ns0 new a:List Nd}(b:ns.length=ns0.length)(e:a.map strip=new):(ns ++ a).length=(ns0 ++ new).length:=by
 rw [aaO,aaO,b,← e,List.length_map]
theorem Aq {s:bC}{I:bN}{d:bC}{n:Nd}{new:List Nd}(b:d.ns=s.ns ++ new)(m:∃ g k t R,I=(g,k,t) :: R∧Qh t)(u:strip n=n)
  (q:∀ (l:List Tok) (en:Int) (p:Nat) (ns:List Nd),rO l p I→ns.length=s.ns.length→Eh (tx l (p+I.length))→∃ a c,a.map strip=new∧strip c=n∧Runs l en .post p ns [((ns ++ a).length:Int)] (p+I.length) (ns ++ a ++ [c])):wN s (bH I d n) (new ++ [n]):=by
 refine⟨?_,m,fun l en p ns j f r=>?_⟩
 ·show d.ns ++ [n]=_
  rw [b,List.append_assoc]
 ·obtain⟨a,c,e,h,i⟩:=q l en p ns j f r
  refine⟨a ++ [c],by rw [List.map_append,e];show new ++ [strip c]=_;rw [h],?_⟩
  have O:(bH I d n).ix=((ns ++ a).length:Int):=by
   show (d.ns.length:Int)=_
   rw [b,len_eq f e]
  rw [O,← List.append_assoc];exact i
theorem nV {t x:Bs}(h:t=x)(a:Ua x=true):mG t:=by rw [h];exact JL a
section
variable (ay:Bool) {E:bC→kJ} (hE:∀ s,∃ new,wN s (E s) new)
include hE
theorem if_ep (s:bC):∃ new,wN s (Va ay E s) new:=by
 obtain⟨I,h1⟩:=hE s;obtain⟨J,h2⟩:=hE (E s).st;obtain⟨K,h3⟩:=hE (E (E s).st).st
 generalize R:E s=A at h1 h2 h3
 generalize S:E A.st=C at h2 h3
 generalize T:E C.st=D at h3
 refine⟨I ++ J ++ K ++ [⟨19,[],0,[A.ix,C.ix,D.ix],0⟩],?_⟩
 unfold Va;simp only [R,S,T];refine CF ay (s:=s) (new:=I ++ J ++ K) (n:=⟨19,[],0,[A.ix,C.ix,D.ix],0⟩) (fun l b p d F f G=>?_) (by rw [aF,aF,aF,aF,aF,h3.ns,h2.ns,h1.ns,List.append_assoc,List.append_assoc,List.append_assoc]) rfl;have Q:=F.head;have q:=F.tail;have P:=q.left.on;have h:=q.right;rw [bL] at h
 have r:=h.head;have i:=h.tail.left.on;have a:=h.tail.right;rw [bL] at a
 have t:=a.head;have j:=a.tail.on
 have c:∀ v w x y B L M N,p+((([]:Bs),3,L) :: (bN.on v A.pc ++ (w,3,M) :: (bN.on x C.pc ++ (y,3,N) :: bN.on B D.pc))).length=p+1+A.pc.length+1+C.pc.length+1+D.pc.length:=by
  intro v w x y B L M N;simp only [List.length_cons,aaO,bL];omega
 rw [c] at G ⊢
 obtain⟨g,e,U⟩:=h1.expr (en:=b) P f (nV r.2 (by decide));obtain⟨m,k,V⟩:=h2.expr (en:=b) (ns:=d ++ g) i (by rw [h1.ns];exact len_eq f e) (nV t.2 (by decide));obtain⟨H,u,W⟩:=h3.expr (en:=b) (ns:=d ++ g ++ m) j (by rw [h2.ns,h1.ns];exact len_eq (len_eq f e) k) G
 have O:(aX ay (aX ay (aX ay (aX ay (aX ay D.st))))).id=((d ++ g ++ m ++ H).length:Int):=by
  unfold bC.id;rw [aF,aF,aF,aF,aF,h3.ns,h2.ns,h1.ns,len_eq (len_eq (len_eq f e) k) u]
 rw [O]
 refine⟨g ++ m ++ H ++ [⟨19,[],0,[A.ix,C.ix,D.ix],pl l b p⟩],by rw [List.map_append,List.map_append,List.map_append,e,k,u];rfl,?_⟩
 have:=Yr Q.2 U r.2 V t.2 W
 simpa only [List.append_assoc] using this
theorem let_ep {x:Bs}(s:bC):∃ new,wN s (DW ay E x s) new:=by
 obtain⟨w,h1⟩:=hE s;obtain⟨y,h2⟩:=hE (E s).st
 generalize K:E s=A at h1 h2
 generalize L:E A.st=C at h2
 refine⟨w ++ y ++ [⟨20,x,0,[A.ix,C.ix],0⟩],?_⟩
 unfold DW;simp only [K,L];refine CF ay (s:=s) (new:=w ++ y) (n:=⟨20,x,0,[A.ix,C.ix],0⟩) (fun l a p h b f u=>?_) (by rw [aF,aF,aF,aF,h2.ns,h1.ns,List.append_assoc]) rfl;have I:=b.head;have i:=b.tail.head;have J:=b.tail.tail.head;have H:=b.tail.tail.tail.left;have G:=b.tail.tail.tail.right;have j:=G.head;have d:=G.tail.on
 have c:∀ m q r t B D F,p+((([]:Bs),3,B) :: (m,1,x) :: (q,4,D) :: (A.pc ++ (r,3,F) :: bN.on t C.pc)).length=p+1+1+1+A.pc.length+1+C.pc.length:=by
  intro m q r t B D F;simp only [List.length_cons,aaO,bL];omega
 rw [c] at u ⊢
 obtain⟨g,e,M⟩:=h1.expr (en:=a) H f (nV j.2 (by decide));obtain⟨v,k,N⟩:=h2.expr (en:=a) (ns:=h ++ g) d (by rw [h1.ns];exact len_eq f e) u
 have O:(aX ay (aX ay (aX ay (aX ay C.st)))).id=((h ++ g ++ v).length:Int):=by
  unfold bC.id;rw [aF,aF,aF,aF,h2.ns,h1.ns,len_eq (len_eq f e) k]
 rw [O]
 refine⟨g ++ v ++ [⟨20,tx l (p+1),0,[A.ix,C.ix],pl l a p⟩],by rw [List.map_append,List.map_append,e,k,i.2];rfl,?_⟩
 have:=TK I.2 i.1 J.2 M j.2 N
 simpa only [List.append_assoc] using this
theorem Nc:∀ (m:Nat) (r:pz),r.ix ≠ []→∃ (J:bN) (d:List Int) (new:List Nd),(bK ay E m r).pc=r.pc ++ J∧(bK ay E m r).ix=r.ix ++ d∧(bK ay E m r).st.ns=r.st.ns ++ new ∧
  ∀ (l:List Tok) (en:Int) (p:Nat) (ns:List Nd),rO l p J→ns.length=r.st.ns.length→mG (tx l (p+J.length))→tx l (p+J.length) ≠ [44] →
   (J=[]∨tx l p=[44])∧∃ a,a.map strip=new∧Runs l en (.eu .expr r.ix) p ns (r.ix ++ d) (p+J.length) (ns ++ a)
 | 0,r,_=>⟨[],[],[],by rw [List.append_nil];rfl,by rw [List.append_nil];rfl,by rw [List.append_nil];rfl,fun l en p ns _ _ _ h=>⟨.inl rfl,[],rfl,by
   rw [List.append_nil,List.append_nil];exact yP h⟩⟩
 | m+1,r,hr=>by
  rw [bK,if_neg hr];obtain⟨G,h1⟩:=hE (aX ay r.st)
  generalize E (aX ay r.st)=A at h1
  obtain⟨J,d,new,x,B,C,q⟩:=Nc m ⟨r.pc ++ (bP [44] :: bN.on (bG ay r.st) A.pc),r.ix ++ [A.ix],A.st⟩ (by simp)
  refine⟨bP [44] :: bN.on (bG ay r.st) A.pc ++ J,A.ix :: d,G ++ new,by rw [x,List.append_assoc],by rw [B];simp,by rw [C,h1.ns,aF,List.append_assoc],fun l en p ns g t c e=>?_⟩
  have j:=g.left.head;have w:=g.left.tail.on;have f:=g.right;rw [List.length_cons,bL] at f
  have b:p+(bP [44] :: bN.on (bG ay r.st) A.pc ++ J).length=p+(A.pc.length+1)+J.length:=by
   rw [aaO,List.length_cons,bL];omega
  rw [b] at c e ⊢
  refine⟨.inr j.2,?_⟩
  have n:p+1+A.pc.length=p+(A.pc.length+1):=by omega
  have i:mG (tx l (p+1+A.pc.length)):=by
   rw [n]
   cases J with
   | nil=>exact c
   | cons y J =>
    obtain⟨I,K,L⟩:=y
    have:=(q l en (p+(A.pc.length+1)) (List.replicate A.st.ns.length default) f (by simp) c e).1
    rcases this with h | h
    ·cases h
    ·exact nV h (by decide)
  obtain⟨u,k,v⟩:=h1.expr (en:=en) (ns:=ns) w (by rw [aF];exact t) i;obtain⟨_,F,D,H⟩:=q l en (p+(A.pc.length+1)) (ns ++ u) f (by show _=A.st.ns.length;rw [h1.ns,aF];exact len_eq t k) c e
  refine⟨u ++ F,by rw [List.map_append,k,D],?_⟩
  rw [n] at v
  have:=yQ j.2 v H
  simpa only [List.append_assoc,List.cons_append,List.nil_append] using this
theorem CU (m:Nat)(s:bC):∃ new:List Nd,(bK ay E (m+1) ⟨[],[],s⟩).st.ns=s.ns ++ new∧(∃ g k t R,(bK ay E (m+1) ⟨[],[],s⟩).pc=(g,k,t) :: R∧Qh t) ∧
  ∀ (l:List Tok) (en:Int) (p:Nat) (ns:List Nd),rO l p (bK ay E (m+1) ⟨[],[],s⟩).pc→ns.length=s.ns.length→mG (tx l (p+(bK ay E (m+1) ⟨[],[],s⟩).pc.length))→tx l (p+(bK ay E (m+1) ⟨[],[],s⟩).pc.length) ≠ [44] →
   ∃ a,a.map strip=new∧Runs l en (.list .expr) p ns (bK ay E (m+1) ⟨[],[],s⟩).ix (p+(bK ay E (m+1) ⟨[],[],s⟩).pc.length) (ns ++ a):=by
 rw [bK,if_pos rfl];obtain⟨C,h1⟩:=hE s
 show ∃ new:List Nd,(bK ay E m ⟨[] ++ (E s).pc,[] ++ [(E s).ix],(E s).st⟩).st.ns=s.ns ++ new∧_
 generalize E s=A at h1
 obtain⟨J,G,new,i,u,v,n⟩:=Nc ay hE m ⟨[] ++ A.pc,[] ++ [A.ix],A.st⟩ (by simp)
 refine⟨C ++ new,by rw [v,h1.ns,List.append_assoc],?_,fun l en p ns d q b c=>?_⟩
 ·obtain⟨g,k,t,R,e,x⟩:=h1.head;exact⟨g,k,t,R ++ J,by rw [i,List.nil_append,e];rfl,x⟩
 ·rw [i,List.nil_append] at d b c ⊢
  rw [aaO,← Nat.add_assoc] at b c ⊢
  have f:mG (tx l (p+A.pc.length)):=by
   cases J with
   | nil=>exact b
   | cons y J =>
    have:=(n l en (p+A.pc.length) (List.replicate A.st.ns.length default) d.right (by simp) b c).1
    rcases this with h | h
    ·cases h
    ·exact nV h (by decide)
  obtain⟨r,j,D⟩:=h1.expr (en:=en) d.left q f;obtain⟨_,B,w,F⟩:=n l en (p+A.pc.length) (ns ++ r) d.right (by show _=A.st.ns.length;rw [h1.ns];exact len_eq q j) b c
  refine⟨r ++ B,by rw [List.map_append,j,w],?_⟩
  rw [u,← List.append_assoc];exact AO D F
theorem VY {x:Bs}(h:x ∈ j4)(s:bC):∃ new,wN s (xJ ay E x s) new:=by
 unfold xJ;rcases D:s.nx % 4 with _ | m
 ·refine⟨[] ++ [⟨21,x,0,[],0⟩],Aq (by rw [aF,List.append_nil];rfl) (by exact⟨_,_,_,_,rfl,Aj h⟩) rfl (fun l e p r a n f=>?_)⟩
  have b:=a.head;have j:=a.tail.head;have c:=a.tail.tail.head
  refine⟨[],⟨21,tx l p,0,[],pl l e p⟩,rfl,by rw [b.2];rfl,?_⟩
  rw [List.append_nil];exact iR (Lr (vI h b) j.2 c.2) f
 ·obtain⟨new,u,⟨g,k,t,R,v,A⟩,y⟩:=CU ay hE m s.tl;simp only
  generalize bK ay E (m+1) ⟨[],[],s.tl⟩=L at *
  refine⟨new ++ [⟨21,x,0,L.ix,0⟩],Aq (by rw [aF,u];rfl) (by exact⟨_,_,_,_,rfl,Aj h⟩) rfl (fun l e p r a n f=>?_)⟩
  have b:=a.head;have j:=a.tail.head;have i:=a.tail.tail.left;have c:=a.tail.tail.right.head;obtain⟨B,w,C⟩:=y l e (p+1+1) r i n (qb c.2) (by rw [c.2];decide)
  have h3:tx l (p+2) ≠ [41]:=by
   rw [v] at i
   rw [show p+2=p+1+1 by omega,i.head.2];exact A.shut
  refine⟨B,⟨21,tx l p,0,L.ix,pl l e p⟩,w,by rw [b.2];rfl,?_⟩
  have d:∀ q,p+((([]:Bs),1,x) :: bP [40] :: (L.pc ++ [q])).length=p+1+1+L.pc.length+1:=by intro q;simp;omega
  rw [d] at f ⊢
  exact iR (PU (vI h b) j.2 h3 C c.2) f
theorem RG {x:Bs}(s:bC):∃ new,wN s (sI ay E x s) new:=by
 unfold sI;obtain⟨u,h1⟩:=hE s;simp only
 generalize E s=A at h1
 refine⟨u ++ [⟨22,x,0,[A.ix],0⟩],Aq (by rw [aF,h1.ns]) (by exact⟨_,_,_,_,rfl,BQ rfl⟩) rfl (fun l b p w c r d=>?_)⟩
 have f:=c.head;have m:=c.tail.left;have e:=c.tail.right;have g:=e.head;have n:=e.tail.head;have h:=e.tail.tail.head;obtain⟨t,q,v⟩:=h1.expr (en:=b) m r (qb g.2)
 refine⟨t,⟨22,tx l (p+1+A.pc.length+1+1),0,[A.ix],pl l b (p+1+A.pc.length+1)⟩,q,by rw [h.2];rfl,?_⟩
 have a:∀ i j k:Bs × Nat × Bs,p+(bP [40] :: (A.pc ++ [i,j,k])).length=p+1+A.pc.length+1+2:=by intro i j k;simp;omega
 rw [a] at d ⊢
 exact AV (vB f.1 f.2 v g.2) (LK n.2 h.1 (A8 d.1 d.2.1))
theorem R8 (s:bC):∃ new,wN s (sP ay E s) new:=by
 unfold sP;obtain⟨w,h1⟩:=hE s;obtain⟨x,h2⟩:=hE (E s).st;simp only
 generalize E s=A at h1 h2
 generalize E A.st=C at h2
 refine⟨w ++ x ++ [⟨23,[],0,[A.ix,C.ix],0⟩],Aq (by rw [aF,h2.ns,h1.ns,List.append_assoc]) (by exact⟨_,_,_,_,rfl,BQ rfl⟩) rfl (fun l a p n e k f=>?_)⟩
 have g:=e.head;have r:=e.tail.left;have c:=e.tail.right;have h:=c.head;have t:=c.tail.head;have d:=c.tail.tail.left;have i:=c.tail.tail.right.head;obtain⟨m,j,y⟩:=h1.expr (en:=a) r k (qb h.2);obtain⟨v,u,B⟩:=h2.expr (en:=a) (ns:=n ++ m) d (by rw [h1.ns];exact len_eq k j) (nV i.2 (by decide))
 refine⟨m ++ v,⟨23,[],0,[A.ix,C.ix],pl l a (p+1+A.pc.length+1)⟩,by rw [List.map_append,j,u],rfl,?_⟩
 have b:∀ q:Bs × Nat × Bs,p+(bP [40] :: (A.pc ++ bP [41] :: bP [91] :: (C.pc ++ [q]))).length=p+1+A.pc.length+1+1+C.pc.length+1:=by intro q;simp;omega
 rw [b] at f ⊢
 rw [← List.append_assoc];exact AV (vB g.1 g.2 y h.2) (LZ t.2 B i.2 (A8 f.1 f.2.1))
theorem QI (s:bC):∃ new,wN s (rQ ay E s) new:=by
 unfold rQ;obtain⟨new,i,⟨g,k,t,R,w,x⟩,n⟩:=CU ay hE (s.nx % 4) s.tl;rw [Nat.add_comm 1];simp only
 generalize bK ay E (s.nx % 4+1) ⟨[],[],s.tl⟩=L at *
 refine⟨new ++ [⟨26,[],0,L.ix,0⟩],Aq (by rw [aF,i];rfl) (by exact⟨_,_,_,_,rfl,CS (by decide)⟩) rfl (fun l e p u c m f=>?_)⟩
 have d:=c.head;have h:=c.tail.left.on;have b:=c.tail.right.head;rw [bL] at b
 obtain⟨r,j,v⟩:=n l e (p+1) u h m (nV b.2 (by decide)) (by rw [b.2];decide)
 refine⟨r,⟨26,[],0,L.ix,pl l e p⟩,j,rfl,?_⟩
 have a:∀ g q,p+(bP [91] :: (bN.on g L.pc ++ [q])).length=p+1+L.pc.length+1:=by intro g q;simp [bL];omega
 rw [a] at f ⊢
 exact iR (Lg d.1 d.2 v b.2) f
omit hE in
theorem Nw (j:bC){A:kJ}{i:List Nd}(h1:wN j.tl A i){g:Bs}{x:Bs}{l:List Tok}{en:Int}{p:Nat}{ns:List Nd}(b:rO l p ((g,1,x) :: bP [58] :: A.pc))(f:ns.length=j.ns.length)(m:mG (tx l (p+(A.pc.length+2)))) :
  ∃ a,a.map strip=i ++ [⟨25,x,0,[A.ix],0⟩]∧Runs l en .put p ns [(A.st.ns.length:Int)] (p+(A.pc.length+2)) (ns ++ a):=by
 have c:=b.head;have k:=b.tail.head;have e:p+1+1+A.pc.length=p+(A.pc.length+2):=by omega
 obtain⟨h,d,n⟩:=h1.expr (en:=en) b.tail.tail f (by rw [e];exact m)
 refine⟨h ++ [⟨25,tx l p,0,[A.ix],pl l en p⟩],by rw [List.map_append,d,c.2];rfl,?_⟩
 have O:(A.st.ns.length:Int)=((ns ++ h).length:Int):=by rw [h1.ns];exact congrArg _ (len_eq f d).symm
 rw [O,← List.append_assoc,← e];exact TU c.1 k.2 n
theorem NA:∀ (m:Nat) (r:pz),r.ix ≠ []→∃ (J:bN) (f:List Int) (new:List Nd),(eD ay E m r).pc=r.pc ++ J∧(eD ay E m r).ix=r.ix ++ f∧(eD ay E m r).st.ns=r.st.ns ++ new ∧
  ∀ (l:List Tok) (en:Int) (p:Nat) (ns:List Nd),rO l p J→ns.length=r.st.ns.length→mG (tx l (p+J.length))→tx l (p+J.length) ≠ [44] →
   (J=[]∨tx l p=[44])∧∃ a,a.map strip=new∧Runs l en (.eu .put r.ix) p ns (r.ix ++ f) (p+J.length) (ns ++ a)
 | 0,r,_=>⟨[],[],[],by rw [List.append_nil];rfl,by rw [List.append_nil];rfl,by rw [List.append_nil];rfl,fun l en p ns _ _ _ h=>⟨.inl rfl,[],rfl,by
   rw [List.append_nil,List.append_nil];exact yP h⟩⟩
 | m+1,r,hr=>by
  rw [eD];simp only [hr,if_false];obtain⟨G,h1⟩:=hE (aX ay r.st).tl
  generalize E (aX ay r.st).tl=A at h1
  obtain⟨J,f,new,x,B,C,t⟩:=NA m ⟨r.pc ++ ((bG ay r.st,4,[44]) :: ([],1,bA (aX ay r.st).nx) :: bP [58] :: A.pc),r.ix ++ [A.st.id],A.st.put ⟨25,bA (aX ay r.st).nx,0,[A.ix],0⟩⟩ (by simp);have c:(aX ay r.st).tl.ns=r.st.ns:=by show (aX ay r.st).ns=_;rw [aF]
  refine⟨(bG ay r.st,4,[44]) :: ([],1,bA (aX ay r.st).nx) :: bP [58] :: A.pc ++ J,A.st.id :: f,G ++ [⟨25,bA (aX ay r.st).nx,0,[A.ix],0⟩] ++ new,by rw [x,List.append_assoc],by rw [B];simp,?_,fun l en p ns j u d g=>?_⟩
  ·rw [C];show A.st.ns ++ [_] ++ new=_
   rw [h1.ns,c];simp only [List.append_assoc]
  have n:=j.left.head;have w:=j.left.tail;have i:=j.right;have b:p+((bG ay r.st,4,[44]) :: ([],1,bA (aX ay r.st).nx) :: bP [58] :: A.pc ++ J).length=p+1+(A.pc.length+2)+J.length:=by simp;omega
  rw [show p+((bG ay r.st,4,[44]) :: ([],1,bA (aX ay r.st).nx) :: bP [58] :: A.pc).length=p+1+(A.pc.length+2) by simp;omega] at i
  rw [b] at d g ⊢
  refine⟨.inr n.2,?_⟩
  have k:mG (tx l (p+1+(A.pc.length+2))):=by
   cases J with
   | nil=>exact d
   | cons y J =>
    have:=(t l en (p+1+(A.pc.length+2)) (List.replicate (A.st.put ⟨25,bA (aX ay r.st).nx,0,[A.ix],0⟩).ns.length default) i (by simp) d g).1
    rcases this with h | h
    ·cases h
    ·exact nV h (by decide)
  obtain⟨v,q,H⟩:=Nw (aX ay r.st) h1 (en:=en) (ns:=ns) w (by rw [aF];exact u) k
  obtain⟨_,F,D,I⟩:=t l en (p+1+(A.pc.length+2)) (ns ++ v) i (by
   show _=(A.st.ns ++ [_]).length
   rw [h1.ns,c,List.append_assoc];exact len_eq u q) d g
  refine⟨v ++ F,by rw [List.map_append,q,D],?_⟩
  have:=yQ (e:=.put) n.2 H I
  simpa only [List.append_assoc,List.cons_append,List.nil_append] using this
theorem rec_ep {x:Bs}(C:x ∈ j4)(b:Nat)(s:bC):∃ new,wN s (D_ ay E x b s) new:=by
 unfold D_;rw [Nat.add_comm 1,eD];simp only [if_true];obtain⟨P,h1⟩:=hE s.tl
 generalize E s.tl=A at h1
 obtain⟨J,S,new,t,H,I,v⟩:=NA ay hE (b % 3) ⟨[] ++ (([],1,bA s.nx) :: bP [58] :: A.pc),[] ++ [A.st.id],A.st.put ⟨25,bA s.nx,0,[A.ix],0⟩⟩ (by simp)
 generalize eD ay E (b % 3) ⟨[] ++ (([],1,bA s.nx) :: bP [58] :: A.pc),[] ++ [A.st.id],A.st.put ⟨25,bA s.nx,0,[A.ix],0⟩⟩=L at *
 refine⟨P ++ [⟨25,bA s.nx,0,[A.ix],0⟩] ++ new ++ [⟨24,x,0,L.ix,0⟩],Aq ?_ (by exact⟨_,_,_,_,rfl,Aj C⟩) rfl (fun l c p m g w B=>?_)⟩
 ·rw [aF,I];show A.st.ns ++ [_] ++ new=_
  rw [h1.ns];simp only [List.append_assoc];rfl
 have r:=g.head;have G:=g.tail.head;have j:=g.tail.tail.left;have f:=g.tail.tail.right.head;rw [t,List.nil_append] at j
 have M:L.pc.length=A.pc.length+2+J.length:=by rw [t];simp;omega
 rw [show p+1+1+L.pc.length=p+1+1+(A.pc.length+2)+J.length by omega] at f
 have i:=j.right;rw [show p+1+1+(([],1,bA s.nx) :: bP [58] :: A.pc:bN).length=p+1+1+(A.pc.length+2) by simp] at i
 have a:mG (tx l (p+1+1+(A.pc.length+2)+J.length)):=nV f.2 (by decide);have n:tx l (p+1+1+(A.pc.length+2)+J.length) ≠ [44]:=by rw [f.2];decide
 have k:mG (tx l (p+1+1+(A.pc.length+2))):=by
  cases J with
  | nil=>exact a
  | cons y J =>
   have:=(v l c (p+1+1+(A.pc.length+2)) (List.replicate (A.st.put ⟨25,bA s.nx,0,[A.ix],0⟩).ns.length default) i (by simp) a n).1
   rcases this with h | h
   ·cases h
   ·exact nV h (by decide)
 obtain⟨D,u,Q⟩:=Nw s h1 (en:=c) (ns:=m) j.left w k
 obtain⟨_,N,K,R⟩:=v l c (p+1+1+(A.pc.length+2)) (m ++ D) i (by
  show _=(A.st.ns ++ [_]).length
  rw [h1.ns,List.append_assoc];exact len_eq w u) a n
 refine⟨D ++ N,⟨24,tx l p,0,L.ix,pl l c p⟩,by rw [List.map_append,u,K],by rw [r.2];rfl,?_⟩
 have d:∀ q:Bs × Nat × Bs,p+((([]:Bs),1,x) :: bP [123] :: (L.pc ++ [q])).length=p+1+1+(A.pc.length+2)+J.length+1:=by intro q;simp;omega
 rw [d] at B ⊢
 have F:=AO (e:=.put) Q R;rw [← H] at F
 rw [← List.append_assoc];exact iR (TV (vI C r) G.2 F f.2) B
theorem op_ep (b:Nat)(s:bC):∃ new,wN s (CW ay E b s) new:=by
 unfold CW;split
 ·exact not_ep ay hE b s
 ·exact bin_ep ay hE b s
theorem V3 (b:Nat)(s:bC):∃ new,wN s (eF ay E b s) new:=by
 have a:∀ c:bC,c.ns=s.ns→∀ r:kJ,(∃ new,wN c r new)→∃ new,wN s r new:=fun c e r ⟨new,h⟩=>⟨new,by rw [h.ns,e],h.head,fun l f p k g i j=>h.run l f p k g (by rw [e];exact i) j⟩
 have d:=ql s.nx;unfold eF;simp only
 split
 ·exact a s.tl rfl _ (if_ep ay hE _)
 split
 ·exact a s.tl rfl _ (let_ep ay hE _)
 split
 ·exact a s.tl rfl _ (VY ay hE d _)
 split
 ·exact a s.tl rfl _ (RG ay hE _)
 split
 ·exact a s.tl rfl _ (R8 ay hE _)
 split
 ·exact a s.tl rfl _ (QI ay hE _)
 ·exact a s.tl rfl _ (rec_ep ay hE d _ _)
end
theorem wN.tl {s:bC}{r:kJ}(h:∃ new,wN s.tl r new):∃ new,wN s r new:=by
 obtain⟨new,h⟩:=h;exact⟨new,h.ns,h.head,h.run⟩
theorem uI (ay:Bool):∀ (d:Nat) (s:bC),∃ new,wN s (bB ay d s) new
 | 0,s=>wN.tl (M8 _ (Nat.mod_lt _ (by decide)) _)
 | d+1,s=>by
  rw [bB];split
  ·rename_i h;exact wN.tl (M8 _ h _)
  split
  ·exact wN.tl (op_ep ay (uI ay d) _ _)
  ·exact wN.tl (V3 ay (uI ay d) _ _)
end Mist
namespace Mist
structure J9 (s:bC) (r:kJ) (new:List Nd):Prop where
 ns:r.st.ns=s.ns ++ new
 run:∀ (l:List Tok) (en:Int) (p:Nat) (ns:List Nd),rO l p r.pc→ns.length=s.ns.length→∃ new',new'.map strip=new∧Runs l en .typ p ns [r.ix] (p+r.pc.length) (ns ++ new')
theorem J9.tl {s:bC}{r:kJ}(h:∃ new,J9 s.tl r new):∃ new,J9 s r new:=by
 obtain⟨new,h⟩:=h;exact⟨new,h.ns,h.run⟩
theorem Sg (s:bC):∃ new,J9 s (bH [([],3,[105,110,116])] s ⟨30,[],0,[],0⟩) new :=
 ⟨_,rfl,fun l en p ns a b=>⟨[⟨30,[],0,[],pl l en p⟩],rfl,by
  show Runs l en .typ p ns [(s.ns.length:Int)] (p+1) _
  rw [← b];exact TJ a.head.2⟩⟩
theorem Mw (s:bC):∃ new,J9 s (bH [([],3,[98,111,111,108])] s ⟨31,[],0,[],0⟩) new :=
 ⟨_,rfl,fun l en p ns a b=>⟨[⟨31,[],0,[],pl l en p⟩],rfl,by
  show Runs l en .typ p ns [(s.ns.length:Int)] (p+1) _
  rw [← b];exact Py a.head.2⟩⟩
theorem Jk (b:Nat)(s:bC):∃ new,J9 s (bH [([],1,bA b)] s ⟨32,bA b,0,[],0⟩) new :=
 ⟨_,rfl,fun l en p ns c d=>by
  have h0:=c.head;have a:=ql b
  refine⟨[⟨32,tx l p,0,[],pl l en p⟩],by rw [h0.2];rfl,?_⟩
  show Runs l en .typ p ns [(s.ns.length:Int)] (p+1) _
  rw [← d];exact L6 h0.1 (by rw [h0.2];exact iK _ a _ (by decide)) (by rw [h0.2];exact iK _ a _ (by decide)) (by rw [h0.2];exact iK _ a _ (by decide))⟩
theorem BS (ay:Bool):∀ (d:Nat) (s:bC),∃ new,J9 s (bF ay d s) new
 | 0,s=>by
  rw [bF];split
  ·exact J9.tl (Sg _)
  split
  ·exact J9.tl (Mw _)
  ·exact J9.tl (Jk _ _)
 | d+1,s=>by
  rw [bF];split
  ·exact J9.tl (Sg _)
  split
  ·exact J9.tl (Mw _)
  split
  ·exact J9.tl (Jk _ _)
  ·obtain⟨v,h1⟩:=BS ay d s.tl;simp only
   generalize bF ay d s.tl=A at h1
   obtain⟨n,u⟩:∃ n,n=1+A.st.nx % 6:=⟨_,rfl⟩;rw [← u];have c:n < 140:=by omega
   refine⟨v ++ [⟨33,[],(n:Int),[A.ix],0⟩],?_,fun l g p k b i=>?_⟩
   ·show (aX ay A.st.tl).ns ++ [_]=_
    rw [aF,← List.append_assoc];show A.st.ns ++ _=_;rw [h1.ns];rfl
   ·have q:=b.head;have m:=b.tail.left;have e:=b.tail.right;have r:=e.head;have f:=e.tail.head;have t:=e.tail.tail.head;obtain⟨j,h,w⟩:=h1.run l g (p+1) k m i
    refine⟨j ++ [⟨33,[],numOf (tx l (p+1+A.pc.length+1)),[A.ix],pl l g p⟩],by rw [List.map_append,h,f.2,(oO c).1];rfl,?_⟩
    have O:(bH (bP [91] :: (A.pc ++ [(bG ay A.st.tl,4,[59]),([],2,Go.Lib.itoa (n:Int)),bP [93]])) (aX ay A.st.tl) ⟨33,[],(n:Int),[A.ix],0⟩).ix=((k ++ j).length:Int):=by
     show ((aX ay A.st.tl).ns.length:Int)=_
     rw [aF];show (A.st.ns.length:Int)=_
     rw [h1.ns];exact congrArg _ (len_eq i h).symm
    rw [O,← List.append_assoc];have a:p+(bH (bP [91] :: (A.pc ++ [(bG ay A.st.tl,4,[59]),([],2,Go.Lib.itoa (n:Int)),bP [93]])) (aX ay A.st.tl) ⟨33,[],(n:Int),[A.ix],0⟩).pc.length=p+1+A.pc.length+3:=by simp [bH];omega
    rw [a];exact TW q.2 w r.2 f.1 t.2
theorem Fq {s:bC}{A:kJ}{h:List Nd}(h1:J9 s A h){g j:Bs}{x:Bs}{l:List Tok}{en:Int}{p:Nat}{ns:List Nd}(b:rO l p ((g,1,x) :: bP [58] :: bN.on j A.pc))(e:ns.length=s.ns.length) :
  ∃ a,a.map strip=h ++ [⟨34,x,0,[A.ix],0⟩]∧Runs l en .param p ns [(A.st.ns.length:Int)] (p+(A.pc.length+2)) (ns ++ a):=by
 have c:=b.head;have i:=b.tail.head;have k:p+1+1+A.pc.length=p+(A.pc.length+2):=by omega
 obtain⟨f,d,m⟩:=h1.run l en (p+1+1) ns b.tail.tail.on e
 refine⟨f ++ [⟨34,tx l p,0,[A.ix],pl l en p⟩],by rw [List.map_append,d,c.2];rfl,?_⟩
 have O:(A.st.ns.length:Int)=((ns ++ f).length:Int):=by rw [h1.ns];exact congrArg _ (len_eq e d).symm
 rw [O,← List.append_assoc,← k];exact L8 c.1 i.2 m
theorem Fv (ay:Bool):∀ (m:Nat) (r:pz),r.ix ≠ []→∃ (J:bN) (d:List Int) (new:List Nd),(bE ay m r).pc=r.pc ++ J∧(bE ay m r).ix=r.ix ++ d∧(bE ay m r).st.ns=r.st.ns ++ new ∧
  ∀ (l:List Tok) (en:Int) (p:Nat) (ns:List Nd),rO l p J→ns.length=r.st.ns.length→tx l (p+J.length) ≠ [44]→∃ a,a.map strip=new∧Runs l en (.eu .param r.ix) p ns (r.ix ++ d) (p+J.length) (ns ++ a)
 | 0,r,_=>⟨[],[],[],by rw [List.append_nil];rfl,by rw [List.append_nil];rfl,by rw [List.append_nil];rfl,fun l en p ns _ _ h=>⟨[],rfl,by
   rw [List.append_nil,List.append_nil];exact yP h⟩⟩
 | m+1,r,hr=>by
  rw [bE];simp only [hr,if_false];obtain⟨C,h1⟩:=BS ay 2 (aX ay r.st).tl
  generalize bF ay 2 (aX ay r.st).tl=A at h1
  have O:(aX ay A.st).id=(A.st.ns.length:Int):=by unfold bC.id;rw [aF]
  rw [O];obtain⟨J,d,new,u,v,w,y⟩:=Fv ay m ⟨r.pc ++ (bP [44] :: (bG ay r.st,1,bA (aX ay r.st).nx) :: bP [58] :: bN.on (bG ay A.st) A.pc),r.ix ++ [(A.st.ns.length:Int)],(aX ay A.st).put ⟨34,bA (aX ay r.st).nx,0,[A.ix],0⟩⟩ (by simp);have b:(aX ay r.st).tl.ns=r.st.ns:=by show (aX ay r.st).ns=_;rw [aF]
  refine⟨bP [44] :: (bG ay r.st,1,bA (aX ay r.st).nx) :: bP [58] :: bN.on (bG ay A.st) A.pc ++ J,(A.st.ns.length:Int) :: d,C ++ [⟨34,bA (aX ay r.st).nx,0,[A.ix],0⟩] ++ new,by rw [u,List.append_assoc],by rw [v];simp,?_,fun l en p ns f k g=>?_⟩
  ·rw [w];show (aX ay A.st).ns ++ [_] ++ new=_
   rw [aF,h1.ns,b];simp only [List.append_assoc]
  have t:=f.left.head;have q:=f.left.tail;have i:=f.right;have c:p+(bP [44] :: (bG ay r.st,1,bA (aX ay r.st).nx) :: bP [58] :: bN.on (bG ay A.st) A.pc ++ J).length=p+1+(A.pc.length+2)+J.length:=by simp [bL];omega
  rw [show p+(bP [44] :: (bG ay r.st,1,bA (aX ay r.st).nx) :: bP [58] :: bN.on (bG ay A.st) A.pc).length=p+1+(A.pc.length+2) by simp [bL];omega] at i
  rw [c] at g ⊢
  obtain⟨n,j,D⟩:=Fq h1 (en:=en) (ns:=ns) q (by rw [b];exact k)
  obtain⟨B,x,F⟩:=y l en (p+1+(A.pc.length+2)) (ns ++ n) i (by
   show _=((aX ay A.st).ns ++ [_]).length
   rw [aF,h1.ns,b,List.append_assoc];exact len_eq k j) g
  refine⟨n ++ B,by rw [List.map_append,j,x],?_⟩
  have:=yQ (e:=.param) t.2 D F
  simpa only [List.append_assoc,List.cons_append,List.nil_append] using this
theorem CX (ay:Bool)(m:Nat)(s:bC):∃ new:List Nd,(bE ay (m+1) ⟨[],[],s⟩).st.ns=s.ns ++ new∧(∃ x R,x ∈ j4∧(bE ay (m+1) ⟨[],[],s⟩).pc=([],1,x) :: R) ∧
  ∀ (l:List Tok) (en:Int) (p:Nat) (ns:List Nd),rO l p (bE ay (m+1) ⟨[],[],s⟩).pc→ns.length=s.ns.length→tx l (p+(bE ay (m+1) ⟨[],[],s⟩).pc.length) ≠ [44] →
   ∃ a,a.map strip=new∧Runs l en (.list .param) p ns (bE ay (m+1) ⟨[],[],s⟩).ix (p+(bE ay (m+1) ⟨[],[],s⟩).pc.length) (ns ++ a):=by
 rw [bE];simp only [if_true];obtain⟨u,h1⟩:=BS ay 2 s.tl
 generalize bF ay 2 s.tl=A at h1
 have O:(aX ay A.st).id=(A.st.ns.length:Int):=by unfold bC.id;rw [aF]
 rw [O];obtain⟨J,y,new,b,k,n,r⟩:=Fv ay m ⟨[] ++ (([],1,bA s.nx) :: bP [58] :: bN.on (bG ay A.st) A.pc),[] ++ [(A.st.ns.length:Int)],(aX ay A.st).put ⟨34,bA s.nx,0,[A.ix],0⟩⟩ (by simp)
 generalize bE ay m ⟨[] ++ (([],1,bA s.nx) :: bP [58] :: bN.on (bG ay A.st) A.pc),[] ++ [(A.st.ns.length:Int)],(aX ay A.st).put ⟨34,bA s.nx,0,[A.ix],0⟩⟩=L at *
 refine⟨u ++ [⟨34,bA s.nx,0,[A.ix],0⟩] ++ new,?_,⟨bA s.nx,_,ql _,by rw [b];rfl⟩,fun l en p ns c i f=>?_⟩
 ·rw [n];show (aX ay A.st).ns ++ [_] ++ new=_
  rw [aF,h1.ns];simp only [List.append_assoc];rfl
 ·have d:p+L.pc.length=p+(A.pc.length+2)+J.length:=by rw [b];simp [bL];omega
  rw [d] at f ⊢
  rw [b,List.nil_append] at c
  have g:=c.right;rw [show p+(([],1,bA s.nx) :: bP [58] :: bN.on (bG ay A.st) A.pc:bN).length=p+(A.pc.length+2) by simp [bL]] at g
  obtain⟨j,h,v⟩:=Fq h1 (en:=en) (ns:=ns) c.left i
  obtain⟨t,q,w⟩:=r l en (p+(A.pc.length+2)) (ns ++ j) g (by
   show _=((aX ay A.st).ns ++ [_]).length
   rw [aF,h1.ns,List.append_assoc];exact len_eq i h) f
  refine⟨j ++ t,by rw [List.map_append,h,q],?_⟩
  rw [k,← List.append_assoc];exact AO (e:=.param) v w
structure IP (s:bC) (r:kJ) (new:List Nd):Prop where
 ns:r.st.ns=s.ns ++ new
 run:∀ (l:List Tok) (en:Int) (p:Nat) (ns:List Nd),rO l p r.pc→ns.length=s.ns.length→tx l (p+r.pc.length)=[59]→∃ new' n0,new'.map strip=new∧∀ n,n0≤n→item l en n p ns=some (.ok [r.ix] (p+r.pc.length) (ns ++ new'))
theorem uh {t:Bs}(h:t=[59]):mG t:=nV h (by decide)
theorem sH {s:bC}{I:bN}{d:bC}{n:Nd}{new:List Nd}(b:d.ns=s.ns ++ new)
  (q:∀ (l:List Tok) (en:Int) (p:Nat) (ns:List Nd),rO l p I→ns.length=s.ns.length→tx l (p+I.length)=[59]→∃ a c e,a.map strip=new∧strip c=n∧∀ m,e≤m→item l en m p ns=Mist.add c (p+I.length) (ns ++ a)):IP s (bH I d n) (new ++ [n]):=by
 refine⟨?_,fun l en p ns j g r=>?_⟩
 ·show d.ns ++ [n]=_
  rw [b,List.append_assoc]
 ·obtain⟨a,c,e,f,h,i⟩:=q l en p ns j g r
  refine⟨a ++ [c],e,by rw [List.map_append,f];show new ++ [strip c]=_;rw [h],fun m k=>?_⟩
  have O:(bH I d n).ix=((ns ++ a).length:Int):=by
   show (d.ns.length:Int)=_
   rw [b,len_eq g f]
  rw [O,← List.append_assoc,i m k];rfl
theorem Cn {l:List Tok}{en:Int}{p n:Nat}{ns:List Nd}{w:Bs}{i:It}(h:(tg l p).kind=3∧tx l p=w)(hi:Hr w=some i):item l en n p ns=gI l en n i p ns:=by
 unfold item;rw [if_pos h.1,h.2,hi]
theorem Sd {l:List Tok}{en:Int}{p:Nat}{ns:List Nd}(n:Int)(h1:-140 < n)(h2:n < 140)(a:rO l p (fI n)):sN l en p ns=some (.ok [(ns.length:Int)] (p+(fI n).length) (ns ++ [⟨1,[],n,[],pl l en p⟩])):=by
 unfold fI at a ⊢
 split
 ·rename_i h
  rw [if_pos h] at a
  obtain⟨m,c⟩:∃ m:Nat,-n=(m:Int):=⟨(-n).toNat,by omega⟩;rw [c] at a
  have b:=a.head;have d:=a.tail.head;unfold sN;rw [if_pos b.2]
  show ite ((tg l (p+1)).kind=2) _ _=_
  rw [if_pos d.1,d.2,(oO (n:=m) (by omega)).1,← c,Int.neg_neg];rfl
 ·rename_i h
  rw [if_neg h] at a
  obtain⟨m,c⟩:∃ m:Nat,n=(m:Int):=⟨n.toNat,by omega⟩;subst c;have b:=a.head;have hd:=oO (n:=m) (by omega);unfold sN;rw [if_neg (by rw [b.2];exact hd.2.neg)]
  show ite ((tg l p).kind=2) _ _=_
  rw [if_pos b.1,b.2,hd.1];rfl
theorem Oc (ay:Bool){x:Bs}(s:bC):∃ new,IP s (oG ay x s) new:=by
 unfold oG;obtain⟨low,e⟩:∃ low:Int,low=((s.nx % 30:Nat):Int) - 15:=⟨_,rfl⟩;simp only [← e];obtain⟨c,g⟩:∃ c:Int,c=low+(((bX low s.tl).st.nx % 12:Nat):Int):=⟨_,rfl⟩;rw [← g]
 refine⟨[⟨1,[],low,[],0⟩,⟨1,[],c,[],0⟩] ++ [⟨40,x,0,_,0⟩],sH (by
  rw [aF,aF,aF]
  show (s.ns ++ [_]) ++ [_]=_
  rw [List.append_assoc];rfl) (fun l a p b d v w=>?_)⟩
 have n:=d.head;have j:=d.tail.head;have q:=d.tail.tail.head;have k:rO l (p+1+1+1) (fI low):=d.tail.tail.tail.left.on;have h:=d.tail.tail.tail.right;rw [bL] at h
 have r:_∧tx l (p+1+1+1+(fI low).length)=[46,46]:=h.head;have f:rO l (p+1+1+1+(fI low).length+1) (fI c):=h.tail.on
 refine⟨[⟨1,[],low,[],pl l a (p+1+1+1)⟩,⟨1,[],c,[],pl l a (p+1+1+1+(fI low).length+1)⟩],⟨40,tx l (p+1),0,[(b.length:Int),((b.length+1:Nat):Int)],pl l a p⟩,0,rfl,?_,fun m _=>?_⟩
 ·rw [j.2]
  show (⟨40,x,0,[(b.length:Int),((b.length+1:Nat):Int)],0⟩:Nd)=⟨40,x,0,[(s.ns.length:Int),(((s.ns ++ [_]).length:Nat):Int)],0⟩
  rw [v,aaO];rfl
 ·rw [Cn n (i:=.choose) (by decide)];unfold gI
  show ite ((tg l (p+1)).kind=1) _ _=_
  rw [if_pos j.1]
  show ite (tx l (p+2)=[58]) _ _=_
  rw [if_pos q.2];have t:=Sd (en:=a) (ns:=b) low (by omega) (by omega) k;have u:=Sd (en:=a) (ns:=b ++ [⟨1,[],low,[],pl l a (p+1+1+1)⟩]) c (by omega) (by omega) f
  show thn (sN l a (p+1+1+1) b) _=_
  rw [t]
  show ite (tx l (p+1+1+1+(fI low).length)=[46,46]) (thn (sN l a (p+1+1+1+(fI low).length+1) (b ++ [⟨1,[],low,[],pl l a (p+1+1+1)⟩])) _) _=_
  rw [if_pos r.2,u]
  show Mist.add (⟨40,tx l (p+1),0,[hd [(b.length:Int)],hd [((b ++ [(⟨1,[],low,[],pl l a (p+1+1+1)⟩:Nd)]).length:Int)]],pl l a p⟩:Nd) (p+1+1+1+(fI low).length+1+(fI c).length) (b ++ [_] ++ [_])=_
  refine congr (congr (congrArg Mist.add ?_) ?_) ?_
  ·simp [hd]
  ·simp [bL,bX,bH];omega
  ·simp
theorem Yw (ay:Bool){x:Bs}(s:bC):∃ new,IP s (Ah ay x s) new:=by
 unfold Ah;rw [Nat.add_comm 1];obtain⟨new,n,_,u⟩:=CX ay (s.nx % 6) s.tl;simp only
 generalize bE ay (s.nx % 6+1) ⟨[],[],s.tl⟩=L at *
 refine⟨new ++ [⟨41,x,0,L.ix,0⟩],sH (by rw [n];rfl) (fun l c p f a r G=>?_)⟩
 have h:=a.head;have d:=a.tail.head;have j:=a.tail.tail.head;have k:=a.tail.tail.tail.head;have g:=a.tail.tail.tail.tail.left;have e:=a.tail.tail.tail.tail.right.head;obtain⟨v,q,w,F⟩:=u l c (p+1+1+1+1) f g r (by rw [e.2];decide)
 refine⟨v,⟨41,tx l (p+1),0,L.ix,pl l c p⟩,w,q,by rw [d.2];rfl,fun m t=>?_⟩
 rw [Cn h (i:=.record) (by decide)];unfold gI
 show ite ((tg l (p+1)).kind=1) _ _=_
 rw [if_pos d.1]
 show ite (tx l (p+2)=[61]) _ _=_
 rw [if_pos j.2]
 show ite (tx l (p+3)=[123]) _ _=_
 rw [if_pos k.2]
 show thn (run l c m (.list .param) (p+1+1+1+1) f) _=_
 rw [eX F t]
 show ite (tx l (p+1+1+1+1+L.pc.length)=[125]) _ _=_
 rw [if_pos e.2];have b:∀ y A B C D:Bs × Nat × Bs,p+(y :: A :: B :: C :: (L.pc ++ [D])).length=p+1+1+1+1+L.pc.length+1:=by intros;simp;omega
 rw [b]
theorem Ui (s:bC):pO s < 9:=by unfold pO;split <;> omega
theorem OU:∀ n:Fin 9,0 < n.val→Go.Lib.itoa ((n.val:Nat):Int) ≠ [48]:=by decide +kernel
theorem Iq {l:List Tok}{en:Int}{k p:Nat}{ns:List Nd}{ps:List Int}{t:Int}{u:Nat}{e:bC}{B:kJ}{d:List Nd}(i:wN e B d){g:Bs}(c:rO l p ((g,4,[61]) :: B.pc))(j:ns.length=e.ns.length)(q:tx l (p+1+B.pc.length)=[59]) :
  ∃ a b,a.map strip=d∧∀ m,b≤m→kU l en m k ps t u p ns=Mist.add ⟨42,tx l (k+1),u,ps ++ [t] ++ [B.ix],pl l en k⟩ (p+1+B.pc.length) (ns ++ a):=by
 have f:=c.head;obtain⟨r,h,b,v⟩:=i.expr (en:=en) (ns:=ns) c.tail j (uh q)
 refine⟨r,b,h,fun m n=>?_⟩
 unfold kU
 show ite (tx l p=[61]) _ _=_
 rw [if_pos f.2,eX v n];rfl
theorem Iu (ay:Bool){l:List Tok}{en:Int}{k p:Nat}{ns:List Nd}{ps:List Int}{S D:bC}{K B:kJ}{Q P:List Nd}(J:J9 S K Q)(I:wN D B P)(y:D.ns=K.st.ns){T U v w:Bs}(n:Nat)(W:n < 9)
  (h:rO l p ((T,4,[41]) :: (U,4,[58]) :: (K.pc ++ ((if 0 < n then [(v,3,([117,112,116,111]:Bs)),(w,2,Go.Lib.itoa (n:Int))] else []) ++ (bG ay (aX ay (aX ay B.st)),4,[61]) :: B.pc)))) (L:ns.length=S.ns.length)
  {e:Nat} (x:e=p+2+K.pc.length+(if 0 < n then 2 else 0)+1+B.pc.length) (M:tx l e=[59]) :
  ∃ a X,a.map strip=Q ++ P∧∀ m,X≤m→mg l en m k ps p ns=Mist.add ⟨42,tx l (k+1),(n:Int),ps ++ [K.ix] ++ [B.ix],pl l en k⟩ e (ns ++ a):=by
 have G:=h.head;have H:=h.tail.head;have j:=h.tail.tail.left;have b:=h.tail.tail.right;obtain⟨d,q,N,R⟩:=J.run l en (p+1+1) ns j L;have f:(ns ++ d).length=D.ns.length:=by rw [y,J.ns];exact len_eq L q
 by_cases h0:0 < n
 ·rw [if_pos h0] at b x
  have Y:=b.left.head;have F:=b.left.tail.head;have i:=b.right;obtain⟨g,A,r,C⟩:=Iq (k:=k) (ps:=ps) (t:=K.ix) (u:=n) I (en:=en) i f (by rw [show p+1+1+K.pc.length+[(v,3,([117,112,116,111]:Bs)),(w,2,Go.Lib.itoa (n:Int))].length+1+B.pc.length=e by rw [x];simp];exact M)
  refine⟨d ++ g,max N A,by rw [List.map_append,q,r],fun m V=>?_⟩
  have c:tx l (p+1+1+K.pc.length+1) ≠ [48]:=by rw [F.2];exact OU ⟨n,W⟩ h0
  unfold mg
  show ite (tx l p=[41]) _ _=_
  rw [if_pos G.2]
  show ite (tx l (p+1)=[58]) _ _=_
  rw [if_pos H.2]
  show thn (run l en m .typ (p+1+1) ns) _=_
  rw [eX R (by omega)]
  show ite (tx l (p+1+1+K.pc.length)=[117,112,116,111]) (ite (tx l (p+1+1+K.pc.length+1)=[48]) _ (ite ((tg l (p+1+1+K.pc.length+1)).kind=2) (kU l en m k ps K.ix (numOf (tx l (p+1+1+K.pc.length+1)):Nat) (p+1+1+K.pc.length+2) (ns ++ d)) _)) _=_
  rw [if_pos Y.2,if_neg c,if_pos F.1,F.2,(oO (n:=n) (by omega)).1]
  have:=C m (by omega)
  rw [show p+1+1+K.pc.length+[(v,3,([117,112,116,111]:Bs)),(w,2,Go.Lib.itoa (n:Int))].length=p+1+1+K.pc.length+2 by simp] at this
  rw [this,List.append_assoc ns d g,show p+1+1+K.pc.length+2+1+B.pc.length=e by omega]
 ·obtain rfl:n=0:=by omega
  rw [if_neg h0] at b x
  rw [List.nil_append] at b
  obtain⟨g,A,r,C⟩:=Iq (k:=k) (ps:=ps) (t:=K.ix) (u:=0) I (en:=en) b f (by rw [show p+1+1+K.pc.length+1+B.pc.length=e by omega];exact M)
  refine⟨d ++ g,max N A,by rw [List.map_append,q,r],fun m V=>?_⟩
  unfold mg
  show ite (tx l p=[41]) _ _=_
  rw [if_pos G.2]
  show ite (tx l (p+1)=[58]) _ _=_
  rw [if_pos H.2]
  show thn (run l en m .typ (p+1+1) ns) _=_
  rw [eX R (by omega)]
  show ite (tx l (p+1+1+K.pc.length)=[117,112,116,111]) _ (kU l en m k ps K.ix 0 (p+1+1+K.pc.length) (ns ++ d))=_
  rw [if_neg (by rw [b.head.2];decide)]
  have:=C m (by omega)
  rw [show ((0:Nat):Int)=0 from rfl] at this
  rw [this,List.append_assoc ns d g,show p+1+1+K.pc.length+1+B.pc.length=e by omega];rfl
theorem fun_ip (ay:Bool){x:Bs}(s:bC):∃ new,IP s (BG ay x s) new:=by
 unfold BG;simp only
 obtain⟨P,h⟩:∃ P,P=bE ay (s.nx % 5) ⟨[],[],s.tl⟩:=⟨_,rfl⟩;rw [← h];obtain⟨U,v⟩:=BS ay 2 P.st
 generalize bF ay 2 P.st=K at *
 have Q:=Ui K.st
 generalize pO K.st=n at *
 obtain⟨r,g⟩:∃ r,r=if 0 < n then aX ay K.st.tl else K.st.tl:=⟨_,rfl⟩
 rw [← g];have t:r.ns=K.st.ns:=by rw [g];split;rw [aF];rfl;rfl
 obtain⟨T,u⟩:=uI ay 4 r
 generalize bB ay 4 r=B at *
 clear g;rcases q:s.nx % 5 with _ | m
 ·rw [q] at h
  obtain rfl:P=⟨[],[],s.tl⟩:=h
  refine⟨U ++ T ++ [⟨42,x,(n:Int),[] ++ [K.ix,B.ix],0⟩],sH (by rw [aF,aF,aF,u.ns,t,v.ns,List.append_assoc];rfl) (fun l b p e d w I=>?_)⟩
  have D:=d.head;have j:=d.tail.head;have F:=d.tail.tail.head;have a:=d.tail.tail.tail;rw [List.nil_append] at a
  obtain⟨C,J,H,L⟩:=Iu ay (k:=p) (ps:=[]) v u t n Q (en:=b) (ns:=e) a w rfl (by
   rw [← I];congr 1;split <;> simp <;> omega)
  refine⟨C,⟨42,tx l (p+1),(n:Int),[] ++ [K.ix] ++ [B.ix],pl l b p⟩,J,H,by rw [j.2];rfl,fun m q=>?_⟩
  rw [Cn D (i:=.zu) (by decide)];unfold gI
  show ite ((tg l (p+1)).kind=1) _ _=_
  rw [if_pos j.1]
  show ite (tx l (p+2)=[40]) (ite (tx l (p+3)=[41]) (mg l b m p [] (p+3) e) _) _=_
  rw [if_pos F.2,if_pos a.head.2]
  have:=L m q
  rw [show p+1+1+1=p+3 by omega] at this
  rw [this]
  congr 1
  split <;> simp <;> omega
 ·rw [q] at h
  obtain⟨new,G,⟨y,R,hy,M⟩,S⟩:=CX ay m s.tl;rw [← h] at G M S
  clear h
  refine⟨new ++ U ++ T ++ [⟨42,x,(n:Int),P.ix ++ [K.ix,B.ix],0⟩],sH (by rw [aF,aF,aF,u.ns,t,v.ns,G];simp only [List.append_assoc];rfl) (fun l b p e d w I=>?_)⟩
  have D:=d.head;have j:=d.tail.head;have F:=d.tail.tail.head;have f:=d.tail.tail.tail.left;have a:=d.tail.tail.tail.right;obtain⟨A,N,V,W⟩:=S l b (p+1+1+1) e f w (by rw [a.head.2];decide)
  obtain⟨C,J,H,L⟩:=Iu ay (k:=p) (ps:=P.ix) v u t n Q (en:=b) (ns:=e ++ A) a (by rw [G];exact len_eq w N) rfl (by
   rw [← I];congr 1;split <;> simp <;> omega)
  refine⟨A ++ C,⟨42,tx l (p+1),(n:Int),P.ix ++ [K.ix] ++ [B.ix],pl l b p⟩,max J V,by rw [List.map_append,N,H,List.append_assoc],by rw [j.2,List.append_assoc];rfl,fun m q=>?_⟩
  rw [Cn D (i:=.zu) (by decide)];unfold gI;have c:tx l (p+1+1+1) ≠ [41]:=by rw [M] at f;rw [f.head.2];exact (Aj hy).shut
  show ite ((tg l (p+1)).kind=1) _ _=_
  rw [if_pos j.1]
  show ite (tx l (p+2)=[40]) (ite (tx l (p+1+1+1)=[41]) _ (thn (run l b m (.list .param) (p+1+1+1) e) _)) _=_
  rw [if_pos F.2,if_neg c,eX W (by omega)]
  show mg l b m p P.ix (p+1+1+1+P.pc.length) (e ++ A)=_
  rw [L m (by omega),List.append_assoc e A C]
  congr 1
  split <;> simp <;> omega
theorem let_ip (ay:Bool){x:Bs}(s:bC):∃ new,IP s (mM ay x s) new:=by
 unfold mM;obtain⟨w,h⟩:=uI ay 4 s;simp only
 generalize bB ay 4 s=B at *
 refine⟨w ++ [⟨43,x,0,[B.ix],0⟩],sH (by rw [aF,h.ns]) (fun l b p e c r j=>?_)⟩
 have k:=c.head;have f:=c.tail.head;have n:=c.tail.tail.head;have d:=c.tail.tail.tail.on;have a:∀ (g:Bs) (y A C:Bs × Nat × Bs),p+(y :: A :: C :: bN.on g B.pc).length=p+1+1+1+B.pc.length:=by intros;simp [bL];omega
 rw [a] at j ⊢
 obtain⟨u,q,v,D⟩:=h.expr (en:=b) (ns:=e) d r (uh j)
 refine⟨u,⟨43,tx l (p+1),0,[B.ix],pl l b p⟩,v,q,by rw [f.2];rfl,fun m t=>?_⟩
 rw [Cn k (i:=.yB) (by decide)];unfold gI
 show ite ((tg l (p+1)).kind=1) _ _=_
 rw [if_pos f.1]
 show ite (tx l (p+2)=[61]) (thn (run l b m .expr (p+1+1+1) e) _) _=_
 rw [if_pos n.2,eX D t];rfl
theorem KQ (ay:Bool){x:Bs}(s:bC):∃ new,IP s (ng ay x s) new:=by
 unfold ng;obtain⟨v,g⟩:=uI ay 4 s;simp only
 generalize bB ay 4 s=B at *
 refine⟨v ++ [⟨44,x,0,[B.ix],0⟩],sH (by rw [aF,g.ns]) (fun l b p e c q h=>?_)⟩
 have j:=c.head;have f:=c.tail.head;have k:=c.tail.tail.head;have d:=c.tail.tail.tail;have a:∀ (w y A:Bs × Nat × Bs),p+(w :: y :: A :: B.pc).length=p+1+1+1+B.pc.length:=by intros;simp;omega
 rw [a] at h ⊢
 obtain⟨t,n,u,C⟩:=g.expr (en:=b) (ns:=e) d q (uh h)
 refine⟨t,⟨44,tx l (p+1),0,[B.ix],pl l b p⟩,u,n,by rw [f.2];rfl,fun m r=>?_⟩
 rw [Cn j (i:=.observe) (by decide)];unfold gI
 show ite ((tg l (p+1)).kind=1) _ _=_
 rw [if_pos f.1]
 show ite (tx l (p+2)=[58]) (thn (run l b m .expr (p+1+1+1) e) _) _=_
 rw [if_pos k.2,eX C r];rfl
theorem K4 (ay:Bool){x:Bs}(s:bC):∃ new,IP s (oP ay x s) new:=by
 unfold oP
 refine⟨[] ++ [⟨45,x,0,[],0⟩],sH (by rw [aF,List.append_nil]) (fun l d p h b e g=>?_)⟩
 have c:=b.head;have a:=b.tail.head
 refine⟨[],⟨45,tx l (p+1),0,[],pl l d p⟩,0,rfl,by rw [a.2];rfl,fun m f=>?_⟩
 rw [Cn c (i:=.kW) (by decide)];unfold gI
 show ite ((tg l (p+1)).kind=1) _ _=_
 rw [if_pos a.1,List.append_nil];rfl
theorem queries:∀ q:Fin 8,gy (sg jr (q.val+1))=q.val+1:=by decide
theorem ask_ip (ay:Bool)(q:Nat)(h1:1≤q)(h8:q≤8)(s:bC):∃ new,IP s (qz ay q s) new:=by
 unfold qz;simp only
 have t:gy (sg jr q)=q:=by
  have:=queries ⟨q - 1,by omega⟩
  rwa [show q - 1+1=q by omega] at this
 by_cases h7:q=7
 ·subst h7;simp only [if_true,show ¬ ((7:Nat)=8) by decide,if_false]
  refine⟨[] ++ [⟨46,[],7,[],0⟩],sH (by rw [aF,List.append_nil];rfl) (fun l a p d c j e=>?_)⟩
  have f:=c.head;have h:=c.tail.head
  refine⟨[],⟨46,[],7,[],pl l a p⟩,0,rfl,rfl,fun m k=>?_⟩
  rw [Cn f (i:=.ask) (by decide)]
  show wT l a m p d=_
  unfold wT;rw [h.2,t,List.append_nil];rfl
 by_cases h88:q=8
 ·subst h88;simp only [show ¬ ((8:Nat)=7) by decide,if_true,if_false];rw [Nat.add_comm 1];obtain⟨new,D,_,F⟩:=CU ay (uI ay 3) (s.nx % 4) s.tl
  generalize bK ay (bB ay 3) (s.nx % 4+1) ⟨[],[],s.tl⟩=L at *
  refine⟨new ++ [⟨46,[],8,L.ix,0⟩],sH (by rw [aF,D];rfl) (fun l a p d c j e=>?_)⟩
  have f:=c.head;have h:=c.tail.head;have C:=c.tail.tail.on;have b:∀ (g:Bs) (w x:Bs × Nat × Bs),p+(w :: x :: bN.on g L.pc).length=p+1+1+L.pc.length:=by intros;simp [bL];omega
  rw [b] at e ⊢
  obtain⟨u,r,v,y⟩:=F l a (p+1+1) d C j (uh e) (by rw [e];decide)
  refine⟨u,⟨46,[],8,L.ix,pl l a p⟩,v,r,rfl,fun m k=>?_⟩
  rw [Cn f (i:=.ask) (by decide)]
  show wT l a m p d=_
  unfold wT;rw [h.2,t]
  show thn (run l a m (.list .expr) (p+1+1) d) _=_
  rw [eX y k];rfl
 ·simp only [h7,h88,if_false];rw [bK,if_pos rfl,bK];obtain⟨G,A⟩:=uI ay 3 s;simp only [List.nil_append]
  generalize bB ay 3 s=B at *
  refine⟨G ++ [⟨46,[],(q:Int),[B.ix],0⟩],sH (by rw [aF,A.ns]) (fun l a p d c j e=>?_)⟩
  have f:=c.head;have h:=c.tail.head;have n:=c.tail.tail.on;have b:∀ (g:Bs) (w x:Bs × Nat × Bs),p+(w :: x :: bN.on g B.pc).length=p+1+1+B.pc.length:=by intros;simp [bL];omega
  rw [b] at e ⊢
  obtain⟨u,r,v,y⟩:=A.expr (en:=a) (ns:=d) n j (uh e)
  refine⟨u,⟨46,[],(q:Int),[B.ix],pl l a p⟩,v,r,rfl,fun m k=>?_⟩
  rw [Cn f (i:=.ask) (by decide)]
  show wT l a m p d=_
  unfold wT;rw [h.2,t,if_neg (by omega),if_neg h7,if_neg h88]
  show thn (run l a m .expr (p+1+1) d) _=_
  rw [eX y k];rfl
theorem Sm (ay:Bool)(s:bC):∃ new,IP s (bZ ay s) new:=by
 have a:∀ b:bC,b.ns=s.ns→∀ r:kJ,(∃ new,IP b r new)→∃ new,IP s r new:=fun b e r ⟨new,h⟩=>⟨new,by rw [h.ns,e],fun l c p i d f g=>h.run l c p i d (by rw [e];exact f) g⟩
 unfold bZ;simp only
 split
 ·exact a s.tl.tl rfl _ (Oc ay _)
 split
 ·exact a s.tl.tl rfl _ (Yw ay _)
 split
 ·exact a s.tl.tl rfl _ (fun_ip ay _)
 split
 ·exact a s.tl.tl rfl _ (let_ip ay _)
 split
 ·exact a s.tl.tl rfl _ (KQ ay _)
 split
 ·exact a s.tl.tl rfl _ (K4 ay _)
 ·exact a s.tl.tl.tl rfl _ (ask_ip ay _ (by omega) (by omega) _)
theorem MR (ay:Bool):∀ (m:Nat) (r:pz),∃ (J:bN) (e:List Int) (new:List Nd),(jR ay m r).pc=r.pc ++ J∧(jR ay m r).ix=r.ix ++ e∧(jR ay m r).st.ns=r.st.ns ++ new∧e.length≤m ∧
  ∀ (l:List Tok) (en:Int) (p:Nat) (ns:List Nd),rO l p J→ns.length=r.st.ns.length→l.length=p+J.length→∃ a i,a.map strip=new∧∀ n,i≤n→prog l en n (m+1) p ns r.ix=some (.ok (r.ix ++ e) l.length (ns ++ a))
 | 0,r=>⟨[],[],[],by rw [List.append_nil];rfl,by rw [List.append_nil];rfl,by rw [List.append_nil];rfl,aaJ _,fun l en p ns _ _ h=>⟨[],0,rfl,fun n _=>by
   rw [prog,if_neg (by simp at h;omega),List.append_nil,List.append_nil,show l.length=p by simpa using h]⟩⟩
 | m+1,r=>by
  rw [jR];split
  ·exact⟨[],[],[],by rw [List.append_nil],by rw [List.append_nil],by rw [List.append_nil],aaL _,fun l en p ns _ _ h=>⟨[],0,rfl,fun n _=>by
    rw [prog,if_neg (by simp at h;omega),List.append_nil,List.append_nil,show l.length=p by simpa using h]⟩⟩
  ·unfold dM;obtain⟨D,h1⟩:=Sm ay r.st;simp only
   generalize bZ ay r.st=A at h1
   generalize dQ r.st ++ bG ay A.st=g
   obtain⟨J,e,new,v,w,x,I,B⟩:=MR ay m ⟨r.pc ++ (if r.ix=[] then A.pc ++ [(g,4,[59])] else bN.on [10] (A.pc ++ [(g,4,[59])])),r.ix ++ [A.ix],aX ay A.st⟩
   refine⟨(if r.ix=[] then A.pc ++ [(g,4,[59])] else bN.on [10] (A.pc ++ [(g,4,[59])])) ++ J,A.ix :: e,D ++ new,by rw [v,List.append_assoc],by rw [w];simp,by rw [x];show (aX ay A.st).ns ++ new=_;rw [aF,h1.ns,List.append_assoc],by simp;omega,fun l en p ns t u c=>?_⟩
   have d:(if r.ix=[] then A.pc ++ [(g,4,[59])] else bN.on [10] (A.pc ++ [(g,4,[59])])).length=A.pc.length+1:=by split <;> simp [bL]
   have b:rO l p (A.pc ++ [(g,4,[59])]):=by
    have h:=t.left;split at h
    ·exact h
    ·exact h.on
   have j:=t.right;rw [d] at j
   rw [aaO,d] at c
   have k:=b.right.head;obtain⟨f,i,q,G⟩:=h1.run l en p ns b.left u k.2;obtain⟨C,F,y,H⟩:=B l en (p+(A.pc.length+1)) (ns ++ f) j (by show _=(aX ay A.st).ns.length;rw [aF,h1.ns];exact len_eq u q) (by omega)
   refine⟨f ++ C,max i F,by rw [List.map_append,q,y],fun n K=>?_⟩
   rw [prog,if_pos (by omega),G n (by omega)]
   show ite (tx l (p+A.pc.length)=[59]) (prog l en n (m+1) (p+A.pc.length+1) (ns ++ f) (r.ix ++ [A.ix])) _=_
   rw [if_pos k.2]
   have:=H n (by omega)
   rw [show p+(A.pc.length+1)=p+A.pc.length+1 by omega] at this
   rw [this];simp only [List.append_assoc,List.cons_append,List.nil_append]
theorem QL (I:bN):rO (fO 0 I) 0 I:=fun i g k t e=>by
 rw [Nat.zero_add]
 have:∀ (its:List (Bs × Nat × Bs)) (a p:Nat),its[p]? = some (g,k,t)→(tg (fO a its) p).kind=k∧tx (fO a its) p=t:=by
  intro its
  induction its with
  | nil=>intro a p h;simp at h
  | cons y r d =>
   obtain⟨b,f,c⟩:=y;intro a p h
   cases p with
   | zero =>
    have h:(b,f,c)=(g,k,t):=by simpa using h
    injection h with h1 h2;injection h2 with h2 h3;subst h2;subst h3
    exact⟨rfl,rfl⟩
   | succ p=>exact d (a+b.length+c.length) p (by simpa using h)
 exact this I 0 i e
theorem Gm (ay:Bool)(b:Bs)(en:Int):∃ a n,a.map strip=(grown ay b).st.ns∧(grown ay b).ix.length≤12∧prog (fO 0 (grown ay b).pc) en n 13 0 [] []=some (.ok (grown ay b).ix (fO 0 (grown ay b).pc).length a):=by
 unfold grown;obtain⟨J,k,new,c,d,e,g,i⟩:=MR ay 12 ⟨[],[],⟨b,[]⟩⟩;rw [List.nil_append] at c d e
 rw [c,d,e];obtain⟨a,f,h,j⟩:=i (fO 0 J) en 0 [] (QL J) rfl (by rw [mW];simp);exact⟨a,f,h,g,by simpa using j f (aaJ _)⟩
end Mist
