/-
  A part of the proof.
-/
import Derived.Test.YthepmkjggfijoaaGreatDoorSA
import Derived.Test.YthepmkjggfijoaaGreatDoorJ04
set_option linter.all false
set_option maxRecDepth 100000
namespace Mist
theorem len_eq {ns ns0 new a:List Nd}(b:ns.length=ns0.length)(e:a.map strip=new):(ns ++ a).length=(ns0 ++ new).length:=by
 rw [aaO,aaO,b,← e,List.length_map]
theorem end_ep {s:abd}{I:Pcs}{d:abd}{n:Nd}{new:List Nd}(b:d.ns=s.ns ++ new)(m:∃ g k t R,I=(g,k,t) :: R∧HdT t)(u:strip n=n)
  (q:∀ (l:List Tok) (en:Int) (p:Nat) (ns:List Nd),AtP l p I→ns.length=s.ns.length→StopX (tx l (p+I.length))→∃ a c,a.map strip=new∧strip c=n∧Runs l en .post p ns [((ns ++ a).length:Int)] (p+I.length) (ns ++ a ++ [c])):abm s (acV I d n) (new ++ [n]):=by
 refine⟨?_,m,fun l en p ns j f r=>?_⟩
 ·show d.ns ++ [n]=_
  rw [b,List.append_assoc]
 ·obtain⟨a,c,e,h,i⟩:=q l en p ns j f r
  refine⟨a ++ [c],by rw [List.map_append,e];show new ++ [strip c]=_;rw [h],?_⟩
  have O:(acV I d n).ix=((ns ++ a).length:Int):=by
   show (d.ns.length:Int)=_
   rw [b,len_eq f e]
  rw [O,← List.append_assoc];exact i
theorem stop_of {t x:Bs}(h:t=x)(a:stopB x=true):StopE t:=by rw [h];exact stopE_of a
section
variable (wild:Bool) {E:abd→abb} (hE:∀ s,∃ new,abm s (E s) new)
include hE
theorem if_ep (s:abd):∃ new,abm s (ifG wild E s) new:=by
 obtain⟨H,h1⟩:=hE s;obtain⟨I,h2⟩:=hE (E s).st;obtain⟨J,h3⟩:=hE (E (E s).st).st
 generalize P:E s=A at h1 h2 h3
 generalize Q:E A.st=C at h2 h3
 generalize R:E C.st=D at h3
 refine⟨H ++ I ++ J ++ [⟨19,[],0,[A.ix,C.ix,D.ix],0⟩],?_⟩
 unfold ifG;simp only [P,Q,R];refine some_ep wild (s:=s) (new:=H ++ I ++ J) (n:=⟨19,[],0,[A.ix,C.ix,D.ix],0⟩) (fun l en p ns B e F=>?_) (by rw [acI,acI,acI,acI,acI,h3.ns,h2.ns,h1.ns,List.append_assoc,List.append_assoc,List.append_assoc]) rfl;have N:=B.head;have m:=B.tail;have g:=m.left.on;have a:=m.right;rw [acS] at a
 have q:=a.head;have h:=a.tail.left.on;have b:=a.tail.right;rw [acS] at b
 have r:=b.head;have i:=b.tail.on
 have c:∀ u v w x y K L M,p+((([]:Bs),3,K) :: (Pcs.on u A.pc ++ (v,3,L) :: (Pcs.on w C.pc ++ (x,3,M) :: Pcs.on y D.pc))).length=p+1+A.pc.length+1+C.pc.length+1+D.pc.length:=by
  intro u v w x y K L M;simp only [List.length_cons,aaO,acS];omega
 rw [c] at F ⊢
 obtain⟨f,d,r1⟩:=h1.expr (en:=en) g e (stop_of q.2 (by decide));obtain⟨k,j,r2⟩:=h2.expr (en:=en) (ns:=ns ++ f) h (by rw [h1.ns];exact len_eq e d) (stop_of r.2 (by decide));obtain⟨G,t,S⟩:=h3.expr (en:=en) (ns:=ns ++ f ++ k) i (by rw [h2.ns,h1.ns];exact len_eq (len_eq e d) j) F
 have O:(acJ wild (acJ wild (acJ wild (acJ wild (acJ wild D.st))))).id=((ns ++ f ++ k ++ G).length:Int):=by
  unfold abd.id;rw [acI,acI,acI,acI,acI,h3.ns,h2.ns,h1.ns,len_eq (len_eq (len_eq e d) j) t]
 rw [O]
 refine⟨f ++ k ++ G ++ [⟨19,[],0,[A.ix,C.ix,D.ix],pl l en p⟩],by rw [List.map_append,List.map_append,List.map_append,d,j,t];rfl,?_⟩
 have:=runs_if N.2 r1 q.2 r2 r.2 S
 simpa only [List.append_assoc] using this
theorem let_ep {x:Bs}(s:abd):∃ new,abm s (letG wild E x s) new:=by
 obtain⟨w,h1⟩:=hE s;obtain⟨y,h2⟩:=hE (E s).st
 generalize I:E s=A at h1 h2
 generalize J:E A.st=C at h2
 refine⟨w ++ y ++ [⟨20,x,0,[A.ix,C.ix],0⟩],?_⟩
 unfold letG;simp only [I,J];refine some_ep wild (s:=s) (new:=w ++ y) (n:=⟨20,x,0,[A.ix,C.ix],0⟩) (fun l en p ns b g u=>?_) (by rw [acI,acI,acI,acI,h2.ns,h1.ns,List.append_assoc]) rfl;have G:=b.head;have i:=b.tail.head;have H:=b.tail.tail.head;have d:=b.tail.tail.tail.left;have a:=b.tail.tail.tail.right;have j:=a.head;have e:=a.tail.on
 have c:∀ m q r t B D F,p+((([]:Bs),3,B) :: (m,1,x) :: (q,4,D) :: (A.pc ++ (r,3,F) :: Pcs.on t C.pc)).length=p+1+1+1+A.pc.length+1+C.pc.length:=by
  intro m q r t B D F;simp only [List.length_cons,aaO,acS];omega
 rw [c] at u ⊢
 obtain⟨h,f,r1⟩:=h1.expr (en:=en) d g (stop_of j.2 (by decide));obtain⟨v,k,r2⟩:=h2.expr (en:=en) (ns:=ns ++ h) e (by rw [h1.ns];exact len_eq g f) u
 have O:(acJ wild (acJ wild (acJ wild (acJ wild C.st)))).id=((ns ++ h ++ v).length:Int):=by
  unfold abd.id;rw [acI,acI,acI,acI,h2.ns,h1.ns,len_eq (len_eq g f) k]
 rw [O]
 refine⟨h ++ v ++ [⟨20,tx l (p+1),0,[A.ix,C.ix],pl l en p⟩],by rw [List.map_append,List.map_append,f,k,i.2];rfl,?_⟩
 have:=runs_let G.2 i.1 H.2 r1 j.2 r2
 simpa only [List.append_assoc] using this
theorem list_ep:∀ (m:Nat) (r:aa'),r.ix ≠ []→∃ (J:Pcs) (e:List Int) (new:List Nd),(acU wild E m r).pc=r.pc ++ J∧(acU wild E m r).ix=r.ix ++ e∧(acU wild E m r).st.ns=r.st.ns ++ new ∧
  ∀ (l:List Tok) (en:Int) (p:Nat) (ns:List Nd),AtP l p J→ns.length=r.st.ns.length→StopE (tx l (p+J.length))→tx l (p+J.length) ≠ [44] →
   (J=[]∨tx l p=[44])∧∃ a,a.map strip=new∧Runs l en (.eu .expr r.ix) p ns (r.ix ++ e) (p+J.length) (ns ++ a)
 | 0,r,_=>⟨[],[],[],by rw [List.append_nil];rfl,by rw [List.append_nil];rfl,by rw [List.append_nil];rfl,fun l en p ns _ _ _ h=>⟨.inl rfl,[],rfl,by
   rw [List.append_nil,List.append_nil];exact runs_listS h⟩⟩
 | m+1,r,hr=>by
  rw [acU,if_neg hr];obtain⟨D,h1⟩:=hE (acJ wild r.st)
  generalize E (acJ wild r.st)=A at h1
  obtain⟨J,e,new,v,w,x,q⟩:=list_ep m ⟨r.pc ++ (sgn [44] :: Pcs.on (acP wild r.st) A.pc),r.ix ++ [A.ix],A.st⟩ (by simp)
  refine⟨sgn [44] :: Pcs.on (acP wild r.st) A.pc ++ J,A.ix :: e,D ++ new,by rw [v,List.append_assoc],by rw [w];simp,by rw [x,h1.ns,acI,List.append_assoc],fun l en p ns g t d h44=>?_⟩
  have j:=g.left.head;have f:=g.left.tail.on;have b:=g.right;rw [List.length_cons,acS] at b
  have c:p+(sgn [44] :: Pcs.on (acP wild r.st) A.pc ++ J).length=p+(A.pc.length+1)+J.length:=by
   rw [aaO,List.length_cons,acS];omega
  rw [c] at d h44 ⊢
  refine⟨.inr j.2,?_⟩
  have n:p+1+A.pc.length=p+(A.pc.length+1):=by omega
  have i:StopE (tx l (p+1+A.pc.length)):=by
   rw [n]
   cases J with
   | nil=>exact d
   | cons y J =>
    obtain⟨g',F,G⟩:=y
    have:=(q l en (p+(A.pc.length+1)) (List.replicate A.st.ns.length default) b (by simp) d h44).1
    rcases this with h | h
    ·cases h
    ·exact stop_of h (by decide)
  obtain⟨u,k,r1⟩:=h1.expr (en:=en) (ns:=ns) f (by rw [acI];exact t) i;obtain⟨_,C,B,r2⟩:=q l en (p+(A.pc.length+1)) (ns ++ u) b (by show _=A.st.ns.length;rw [h1.ns,acI];exact len_eq t k) d h44
  refine⟨u ++ C,by rw [List.map_append,k,B],?_⟩
  rw [n] at r1
  have:=runs_listT j.2 r1 r2
  simpa only [List.append_assoc,List.cons_append,List.nil_append] using this
theorem list_all (m:Nat)(s:abd):∃ new:List Nd,(acU wild E (m+1) ⟨[],[],s⟩).st.ns=s.ns ++ new∧(∃ g k t R,(acU wild E (m+1) ⟨[],[],s⟩).pc=(g,k,t) :: R∧HdT t) ∧
  ∀ (l:List Tok) (en:Int) (p:Nat) (ns:List Nd),AtP l p (acU wild E (m+1) ⟨[],[],s⟩).pc→ns.length=s.ns.length→StopE (tx l (p+(acU wild E (m+1) ⟨[],[],s⟩).pc.length))→tx l (p+(acU wild E (m+1) ⟨[],[],s⟩).pc.length) ≠ [44] →
   ∃ a,a.map strip=new∧Runs l en (.list .expr) p ns (acU wild E (m+1) ⟨[],[],s⟩).ix (p+(acU wild E (m+1) ⟨[],[],s⟩).pc.length) (ns ++ a):=by
 rw [acU,if_pos rfl];obtain⟨B,h1⟩:=hE s
 show ∃ new:List Nd,(acU wild E m ⟨[] ++ (E s).pc,[] ++ [(E s).ix],(E s).st⟩).st.ns=s.ns ++ new∧_
 generalize E s=A at h1
 obtain⟨J,C,new,f,r,u,j⟩:=list_ep wild hE m ⟨[] ++ A.pc,[] ++ [A.ix],A.st⟩ (by simp)
 refine⟨B ++ new,by rw [u,h1.ns,List.append_assoc],?_,fun l en p ns c n b h44=>?_⟩
 ·obtain⟨g,k,t,R,e,w⟩:=h1.head;exact⟨g,k,t,R ++ J,by rw [f,List.nil_append,e];rfl,w⟩
 ·rw [f,List.nil_append] at c b h44 ⊢
  rw [aaO,← Nat.add_assoc] at b h44 ⊢
  have d:StopE (tx l (p+A.pc.length)):=by
   cases J with
   | nil=>exact b
   | cons y J =>
    have:=(j l en (p+A.pc.length) (List.replicate A.st.ns.length default) c.right (by simp) b h44).1
    rcases this with h | h
    ·cases h
    ·exact stop_of h (by decide)
  obtain⟨q,i,r1⟩:=h1.expr (en:=en) c.left n d;obtain⟨_,x,v,r2⟩:=j l en (p+A.pc.length) (ns ++ q) c.right (by show _=A.st.ns.length;rw [h1.ns];exact len_eq n i) b h44
  refine⟨q ++ x,by rw [List.map_append,i,v],?_⟩
  rw [r,← List.append_assoc];exact runs_list r1 r2
theorem call_ep {x:Bs}(h:x ∈ wordsG)(s:abd):∃ new,abm s (callG wild E x s) new:=by
 unfold callG;rcases A:s.nx % 4 with _ | m
 ·refine⟨[] ++ [⟨21,x,0,[],0⟩],end_ep (by rw [acI,List.append_nil];rfl) (by exact⟨_,_,_,_,rfl,word_hd h⟩) rfl (fun l en p ns a j f=>?_)⟩
  have c:=a.head;have i:=a.tail.head;have d:=a.tail.tail.head
  refine⟨[],⟨21,tx l p,0,[],pl l en p⟩,rfl,by rw [c.2];rfl,?_⟩
  rw [List.append_nil];exact atom_post (runs_call0 (word_named h c) i.2 d.2) f
 ·obtain⟨new,n,⟨g,k,t,R,r,w⟩,v⟩:=list_all wild hE m s.tl;simp only
  generalize acU wild E (m+1) ⟨[],[],s.tl⟩=L at *
  refine⟨new ++ [⟨21,x,0,L.ix,0⟩],end_ep (by rw [acI,n];rfl) (by exact⟨_,_,_,_,rfl,word_hd h⟩) rfl (fun l en p ns a j f=>?_)⟩
  have c:=a.head;have i:=a.tail.head;have b:=a.tail.tail.left;have d:=a.tail.tail.right.head;obtain⟨y,u,r1⟩:=v l en (p+1+1) ns b j (stop_shut d.2) (by rw [d.2];decide)
  have h3:tx l (p+2) ≠ [41]:=by
   rw [r] at b
   rw [show p+2=p+1+1 by omega,b.head.2];exact w.shut
  refine⟨y,⟨21,tx l p,0,L.ix,pl l en p⟩,u,by rw [c.2];rfl,?_⟩
  have e:∀ q,p+((([]:Bs),1,x) :: sgn [40] :: (L.pc ++ [q])).length=p+1+1+L.pc.length+1:=by intro q;simp;omega
  rw [e] at f ⊢
  exact atom_post (runs_call (word_named h c) i.2 h3 r1 d.2) f
theorem field_ep {x:Bs}(s:abd):∃ new,abm s (fieldG wild E x s) new:=by
 unfold fieldG;obtain⟨t,h1⟩:=hE s;simp only
 generalize E s=A at h1
 refine⟨t ++ [⟨22,x,0,[A.ix],0⟩],end_ep (by rw [acI,h1.ns]) (by exact⟨_,_,_,_,rfl,hd_open rfl⟩) rfl (fun l en p ns d q e=>?_)⟩
 have f:=d.head;have c:=d.tail.left;have a:=d.tail.right;have g:=a.head;have m:=a.tail.head;have h:=a.tail.tail.head;obtain⟨r,n,r1⟩:=h1.expr (en:=en) c q (stop_shut g.2)
 refine⟨r,⟨22,tx l (p+1+A.pc.length+1+1),0,[A.ix],pl l en (p+1+A.pc.length+1)⟩,n,by rw [h.2];rfl,?_⟩
 have b:∀ i j k:Bs × Nat × Bs,p+(sgn [40] :: (A.pc ++ [i,j,k])).length=p+1+A.pc.length+1+2:=by intro i j k;simp;omega
 rw [b] at e ⊢
 exact runs_post (runs_paren f.1 f.2 r1 g.2) (runs_field m.2 h.1 (runs_stop e.1 e.2.1))
theorem index_ep (s:abd):∃ new,abm s (indexG wild E s) new:=by
 unfold indexG;obtain⟨u,h1⟩:=hE s;obtain⟨v,h2⟩:=hE (E s).st;simp only
 generalize E s=A at h1 h2
 generalize E A.st=C at h2
 refine⟨u ++ v ++ [⟨23,[],0,[A.ix,C.ix],0⟩],end_ep (by rw [acI,h2.ns,h1.ns,List.append_assoc]) (by exact⟨_,_,_,_,rfl,hd_open rfl⟩) rfl (fun l en p ns e k f=>?_)⟩
 have g:=e.head;have c:=e.tail.left;have a:=e.tail.right;have h:=a.head;have n:=a.tail.head;have d:=a.tail.tail.left;have i:=a.tail.tail.right.head;obtain⟨m,j,r1⟩:=h1.expr (en:=en) c k (stop_shut h.2);obtain⟨t,r,r2⟩:=h2.expr (en:=en) (ns:=ns ++ m) d (by rw [h1.ns];exact len_eq k j) (stop_of i.2 (by decide))
 refine⟨m ++ t,⟨23,[],0,[A.ix,C.ix],pl l en (p+1+A.pc.length+1)⟩,by rw [List.map_append,j,r],rfl,?_⟩
 have b:∀ q:Bs × Nat × Bs,p+(sgn [40] :: (A.pc ++ sgn [41] :: sgn [91] :: (C.pc ++ [q]))).length=p+1+A.pc.length+1+1+C.pc.length+1:=by intro q;simp;omega
 rw [b] at f ⊢
 rw [← List.append_assoc];exact runs_post (runs_paren g.1 g.2 r1 h.2) (runs_index n.2 r2 i.2 (runs_stop f.1 f.2.1))
theorem array_ep (s:abd):∃ new,abm s (arrayG wild E s) new:=by
 unfold arrayG;obtain⟨new,h,⟨g,k,t,R,r,u⟩,m⟩:=list_all wild hE (s.nx % 4) s.tl;rw [Nat.add_comm 1];simp only
 generalize acU wild E (s.nx % 4+1) ⟨[],[],s.tl⟩=L at *
 refine⟨new ++ [⟨26,[],0,L.ix,0⟩],end_ep (by rw [acI,h];rfl) (by exact⟨_,_,_,_,rfl,hdT_of (by decide)⟩) rfl (fun l en p ns d j f=>?_)⟩
 have e:=d.head;have c:=d.tail.left.on;have b:=d.tail.right.head;rw [acS] at b
 obtain⟨n,i,r1⟩:=m l en (p+1) ns c j (stop_of b.2 (by decide)) (by rw [b.2];decide)
 refine⟨n,⟨26,[],0,L.ix,pl l en p⟩,i,rfl,?_⟩
 have a:∀ g q,p+(sgn [91] :: (Pcs.on g L.pc ++ [q])).length=p+1+L.pc.length+1:=by intro g q;simp [acS];omega
 rw [a] at f ⊢
 exact atom_post (runs_array e.1 e.2 r1 b.2) f
omit hE in
theorem put_one (j:abd){A:abb}{i:List Nd}(h1:abm j.tl A i){g:Bs}{x:Bs}{l:List Tok}{en:Int}{p:Nat}{ns:List Nd}(b:AtP l p ((g,1,x) :: sgn [58] :: A.pc))(f:ns.length=j.ns.length)(m:StopE (tx l (p+(A.pc.length+2)))) :
  ∃ a,a.map strip=i ++ [⟨25,x,0,[A.ix],0⟩]∧Runs l en .put p ns [(A.st.ns.length:Int)] (p+(A.pc.length+2)) (ns ++ a):=by
 have c:=b.head;have k:=b.tail.head;have e:p+1+1+A.pc.length=p+(A.pc.length+2):=by omega
 obtain⟨h,d,r1⟩:=h1.expr (en:=en) b.tail.tail f (by rw [e];exact m)
 refine⟨h ++ [⟨25,tx l p,0,[A.ix],pl l en p⟩],by rw [List.map_append,d,c.2];rfl,?_⟩
 have O:(A.st.ns.length:Int)=((ns ++ h).length:Int):=by rw [h1.ns];exact congrArg _ (len_eq f d).symm
 rw [O,← List.append_assoc,← e];exact runs_put c.1 k.2 r1
theorem puts_ep:∀ (m:Nat) (r:aa'),r.ix ≠ []→∃ (J:Pcs) (g:List Int) (new:List Nd),(putsG wild E m r).pc=r.pc ++ J∧(putsG wild E m r).ix=r.ix ++ g∧(putsG wild E m r).st.ns=r.st.ns ++ new ∧
  ∀ (l:List Tok) (en:Int) (p:Nat) (ns:List Nd),AtP l p J→ns.length=r.st.ns.length→StopE (tx l (p+J.length))→tx l (p+J.length) ≠ [44] →
   (J=[]∨tx l p=[44])∧∃ a,a.map strip=new∧Runs l en (.eu .put r.ix) p ns (r.ix ++ g) (p+J.length) (ns ++ a)
 | 0,r,_=>⟨[],[],[],by rw [List.append_nil];rfl,by rw [List.append_nil];rfl,by rw [List.append_nil];rfl,fun l en p ns _ _ _ h=>⟨.inl rfl,[],rfl,by
   rw [List.append_nil,List.append_nil];exact runs_listS h⟩⟩
 | m+1,r,hr=>by
  rw [putsG];simp only [hr,if_false];obtain⟨F,h1⟩:=hE (acJ wild r.st).tl
  generalize E (acJ wild r.st).tl=A at h1
  obtain⟨J,g,new,w,x,B,t⟩:=puts_ep m ⟨r.pc ++ ((acP wild r.st,4,[44]) :: ([],1,acM (acJ wild r.st).nx) :: sgn [58] :: A.pc),r.ix ++ [A.st.id],A.st.put ⟨25,acM (acJ wild r.st).nx,0,[A.ix],0⟩⟩ (by simp);have d:(acJ wild r.st).tl.ns=r.st.ns:=by show (acJ wild r.st).ns=_;rw [acI]
  refine⟨(acP wild r.st,4,[44]) :: ([],1,acM (acJ wild r.st).nx) :: sgn [58] :: A.pc ++ J,A.st.id :: g,F ++ [⟨25,acM (acJ wild r.st).nx,0,[A.ix],0⟩] ++ new,by rw [w,List.append_assoc],by rw [x];simp,?_,fun l en p ns j u f h44=>?_⟩
  ·rw [B];show A.st.ns ++ [_] ++ new=_
   rw [h1.ns,d];simp only [List.append_assoc]
  have n:=j.left.head;have i:=j.left.tail;have b:=j.right;have c:p+((acP wild r.st,4,[44]) :: ([],1,acM (acJ wild r.st).nx) :: sgn [58] :: A.pc ++ J).length=p+1+(A.pc.length+2)+J.length:=by simp;omega
  rw [show p+((acP wild r.st,4,[44]) :: ([],1,acM (acJ wild r.st).nx) :: sgn [58] :: A.pc).length=p+1+(A.pc.length+2) by simp;omega] at b
  rw [c] at f h44 ⊢
  refine⟨.inr n.2,?_⟩
  have k:StopE (tx l (p+1+(A.pc.length+2))):=by
   cases J with
   | nil=>exact f
   | cons y J =>
    have:=(t l en (p+1+(A.pc.length+2)) (List.replicate (A.st.put ⟨25,acM (acJ wild r.st).nx,0,[A.ix],0⟩).ns.length default) b (by simp) f h44).1
    rcases this with h | h
    ·cases h
    ·exact stop_of h (by decide)
  obtain⟨v,q,r1⟩:=put_one (acJ wild r.st) h1 (en:=en) (ns:=ns) i (by rw [acI];exact u) k
  obtain⟨_,D,C,r2⟩:=t l en (p+1+(A.pc.length+2)) (ns ++ v) b (by
   show _=(A.st.ns ++ [_]).length
   rw [h1.ns,d,List.append_assoc];exact len_eq u q) f h44
  refine⟨v ++ D,by rw [List.map_append,q,C],?_⟩
  have:=runs_listT (e:=.put) n.2 r1 r2
  simpa only [List.append_assoc,List.cons_append,List.nil_append] using this
theorem rec_ep {x:Bs}(v:x ∈ wordsG)(b:Nat)(s:abd):∃ new,abm s (recG wild E x b s) new:=by
 unfold recG;rw [Nat.add_comm 1,putsG];simp only [if_true];obtain⟨K,h1⟩:=hE s.tl
 generalize E s.tl=A at h1
 obtain⟨J,M,new,m,D,F,r⟩:=puts_ep wild hE (b % 3) ⟨[] ++ (([],1,acM s.nx) :: sgn [58] :: A.pc),[] ++ [A.st.id],A.st.put ⟨25,acM s.nx,0,[A.ix],0⟩⟩ (by simp)
 generalize putsG wild E (b % 3) ⟨[] ++ (([],1,acM s.nx) :: sgn [58] :: A.pc),[] ++ [A.st.id],A.st.put ⟨25,acM s.nx,0,[A.ix],0⟩⟩=L at *
 refine⟨K ++ [⟨25,acM s.nx,0,[A.ix],0⟩] ++ new ++ [⟨24,x,0,L.ix,0⟩],end_ep ?_ (by exact⟨_,_,_,_,rfl,word_hd v⟩) rfl (fun l en p ns i t u=>?_)⟩
 ·rw [acI,F];show A.st.ns ++ [_] ++ new=_
  rw [h1.ns];simp only [List.append_assoc];rfl
 have k:=i.head;have C:=i.tail.head;have c:=i.tail.tail.left;have g:=i.tail.tail.right.head;rw [m,List.nil_append] at c
 have H:L.pc.length=A.pc.length+2+J.length:=by rw [m];simp;omega
 rw [show p+1+1+L.pc.length=p+1+1+(A.pc.length+2)+J.length by omega] at g
 have a:=c.right;rw [show p+1+1+(([],1,acM s.nx) :: sgn [58] :: A.pc:Pcs).length=p+1+1+(A.pc.length+2) by simp] at a
 have d:StopE (tx l (p+1+1+(A.pc.length+2)+J.length)):=stop_of g.2 (by decide);have h44:tx l (p+1+1+(A.pc.length+2)+J.length) ≠ [44]:=by rw [g.2];decide
 have j:StopE (tx l (p+1+1+(A.pc.length+2))):=by
  cases J with
  | nil=>exact d
  | cons y J =>
   have:=(r l en (p+1+1+(A.pc.length+2)) (List.replicate (A.st.put ⟨25,acM s.nx,0,[A.ix],0⟩).ns.length default) a (by simp) d h44).1
   rcases this with h | h
   ·cases h
   ·exact stop_of h (by decide)
 obtain⟨w,n,r1⟩:=put_one s h1 (en:=en) (ns:=ns) c.left t j
 obtain⟨_,I,G,r2⟩:=r l en (p+1+1+(A.pc.length+2)) (ns ++ w) a (by
  show _=(A.st.ns ++ [_]).length
  rw [h1.ns,List.append_assoc];exact len_eq t n) d h44
 refine⟨w ++ I,⟨24,tx l p,0,L.ix,pl l en p⟩,by rw [List.map_append,n,G],by rw [k.2];rfl,?_⟩
 have f:∀ q:Bs × Nat × Bs,p+((([]:Bs),1,x) :: sgn [123] :: (L.pc ++ [q])).length=p+1+1+(A.pc.length+2)+J.length+1:=by intro q;simp;omega
 rw [f] at u ⊢
 have B:=runs_list (e:=.put) r1 r2;rw [← D] at B
 rw [← List.append_assoc];exact atom_post (runs_rec (word_named v k) C.2 B g.2) u
theorem op_ep (b:Nat)(s:abd):∃ new,abm s (opG wild E b s) new:=by
 unfold opG;split
 ·exact not_ep wild hE b s
 ·exact bin_ep wild hE b s
theorem comp_ep (b:Nat)(s:abd):∃ new,abm s (compG wild E b s) new:=by
 have a:∀ c:abd,c.ns=s.ns→∀ r:abb,(∃ new,abm c r new)→∃ new,abm s r new:=fun c e r ⟨new,h⟩=>⟨new,by rw [h.ns,e],h.head,fun l en p ns f g i=>h.run l en p ns f (by rw [e];exact g) i⟩
 have d:=wordG_mem s.nx;unfold compG;simp only
 split
 ·exact a s.tl rfl _ (if_ep wild hE _)
 split
 ·exact a s.tl rfl _ (let_ep wild hE _)
 split
 ·exact a s.tl rfl _ (call_ep wild hE d _)
 split
 ·exact a s.tl rfl _ (field_ep wild hE _)
 split
 ·exact a s.tl rfl _ (index_ep wild hE _)
 split
 ·exact a s.tl rfl _ (array_ep wild hE _)
 ·exact a s.tl rfl _ (rec_ep wild hE d _ _)
end
theorem abm.tl {s:abd}{r:abb}(h:∃ new,abm s.tl r new):∃ new,abm s r new:=by
 obtain⟨new,h⟩:=h;exact⟨new,h.ns,h.head,h.run⟩
theorem expr_ep (wild:Bool):∀ (d:Nat) (s:abd),∃ new,abm s (acN wild d s) new
 | 0,s=>abm.tl (leaf_ep _ (Nat.mod_lt _ (by decide)) _)
 | d+1,s=>by
  rw [acN];split
  ·rename_i h;exact abm.tl (leaf_ep _ h _)
  split
  ·exact abm.tl (op_ep wild (expr_ep wild d) _ _)
  ·exact abm.tl (comp_ep wild (expr_ep wild d) _ _)
end Mist
namespace Mist
structure abv (s:abd) (r:abb) (new:List Nd):Prop where
 ns:r.st.ns=s.ns ++ new
 run:∀ (l:List Tok) (en:Int) (p:Nat) (ns:List Nd),AtP l p r.pc→ns.length=s.ns.length→∃ new',new'.map strip=new∧Runs l en .typ p ns [r.ix] (p+r.pc.length) (ns ++ new')
theorem abv.tl {s:abd}{r:abb}(h:∃ new,abv s.tl r new):∃ new,abv s r new:=by
 obtain⟨new,h⟩:=h;exact⟨new,h.ns,h.run⟩
theorem int_kp (s:abd):∃ new,abv s (acV [([],3,[105,110,116])] s ⟨30,[],0,[],0⟩) new :=
 ⟨_,rfl,fun l en p ns a b=>⟨[⟨30,[],0,[],pl l en p⟩],rfl,by
  show Runs l en .typ p ns [(s.ns.length:Int)] (p+1) _
  rw [← b];exact runs_int a.head.2⟩⟩
theorem bool_kp (s:abd):∃ new,abv s (acV [([],3,[98,111,111,108])] s ⟨31,[],0,[],0⟩) new :=
 ⟨_,rfl,fun l en p ns a b=>⟨[⟨31,[],0,[],pl l en p⟩],rfl,by
  show Runs l en .typ p ns [(s.ns.length:Int)] (p+1) _
  rw [← b];exact runs_bool a.head.2⟩⟩
theorem named_kp (b:Nat)(s:abd):∃ new,abv s (acV [([],1,acM b)] s ⟨32,acM b,0,[],0⟩) new :=
 ⟨_,rfl,fun l en p ns c d=>by
  have h0:=c.head;have a:=wordG_mem b
  refine⟨[⟨32,tx l p,0,[],pl l en p⟩],by rw [h0.2];rfl,?_⟩
  show Runs l en .typ p ns [(s.ns.length:Int)] (p+1) _
  rw [← d];exact runs_named h0.1 (by rw [h0.2];exact words_not _ a _ (by decide)) (by rw [h0.2];exact words_not _ a _ (by decide)) (by rw [h0.2];exact words_not _ a _ (by decide))⟩
theorem kind_kp (wild:Bool):∀ (d:Nat) (s:abd),∃ new,abv s (acQ wild d s) new
 | 0,s=>by
  rw [acQ];split
  ·exact abv.tl (int_kp _)
  split
  ·exact abv.tl (bool_kp _)
  ·exact abv.tl (named_kp _ _)
 | d+1,s=>by
  rw [acQ];split
  ·exact abv.tl (int_kp _)
  split
  ·exact abv.tl (bool_kp _)
  split
  ·exact abv.tl (named_kp _ _)
  ·obtain⟨t,h1⟩:=kind_kp wild d s.tl;simp only
   generalize acQ wild d s.tl=A at h1
   obtain⟨n,r⟩:∃ n,n=1+A.st.nx % 6:=⟨_,rfl⟩;rw [← r];have f:n < 140:=by omega
   refine⟨t ++ [⟨33,[],(n:Int),[A.ix],0⟩],?_,fun l en p ns e i=>?_⟩
   ·show (acJ wild A.st.tl).ns ++ [_]=_
    rw [acI,← List.append_assoc];show A.st.ns ++ _=_;rw [h1.ns];rfl
   ·have k:=e.head;have c:=e.tail.left;have a:=e.tail.right;have m:=a.head;have g:=a.tail.head;have q:=a.tail.tail.head;obtain⟨j,h,r1⟩:=h1.run l en (p+1) ns c i
    refine⟨j ++ [⟨33,[],numOf (tx l (p+1+A.pc.length+1)),[A.ix],pl l en p⟩],by rw [List.map_append,h,g.2,(num_of_itoa f).1];rfl,?_⟩
    have O:(acV (sgn [91] :: (A.pc ++ [(acP wild A.st.tl,4,[59]),([],2,Go.Lib.itoa (n:Int)),sgn [93]])) (acJ wild A.st.tl) ⟨33,[],(n:Int),[A.ix],0⟩).ix=((ns ++ j).length:Int):=by
     show ((acJ wild A.st.tl).ns.length:Int)=_
     rw [acI];show (A.st.ns.length:Int)=_
     rw [h1.ns];exact congrArg _ (len_eq i h).symm
    rw [O,← List.append_assoc];have b:p+(acV (sgn [91] :: (A.pc ++ [(acP wild A.st.tl,4,[59]),([],2,Go.Lib.itoa (n:Int)),sgn [93]])) (acJ wild A.st.tl) ⟨33,[],(n:Int),[A.ix],0⟩).pc.length=p+1+A.pc.length+3:=by simp [acV];omega
    rw [b];exact runs_row k.2 r1 m.2 g.1 q.2
theorem param_one {s:abd}{A:abb}{h:List Nd}(h1:abv s A h){g j:Bs}{x:Bs}{l:List Tok}{en:Int}{p:Nat}{ns:List Nd}(b:AtP l p ((g,1,x) :: sgn [58] :: Pcs.on j A.pc))(e:ns.length=s.ns.length) :
  ∃ a,a.map strip=h ++ [⟨34,x,0,[A.ix],0⟩]∧Runs l en .param p ns [(A.st.ns.length:Int)] (p+(A.pc.length+2)) (ns ++ a):=by
 have c:=b.head;have i:=b.tail.head;have k:p+1+1+A.pc.length=p+(A.pc.length+2):=by omega
 obtain⟨f,d,r1⟩:=h1.run l en (p+1+1) ns b.tail.tail.on e
 refine⟨f ++ [⟨34,tx l p,0,[A.ix],pl l en p⟩],by rw [List.map_append,d,c.2];rfl,?_⟩
 have O:(A.st.ns.length:Int)=((ns ++ f).length:Int):=by rw [h1.ns];exact congrArg _ (len_eq e d).symm
 rw [O,← List.append_assoc,← k];exact runs_param c.1 i.2 r1
theorem params_ep (wild:Bool):∀ (m:Nat) (r:aa'),r.ix ≠ []→∃ (J:Pcs) (f:List Int) (new:List Nd),(acO wild m r).pc=r.pc ++ J∧(acO wild m r).ix=r.ix ++ f∧(acO wild m r).st.ns=r.st.ns ++ new ∧
  ∀ (l:List Tok) (en:Int) (p:Nat) (ns:List Nd),AtP l p J→ns.length=r.st.ns.length→tx l (p+J.length) ≠ [44]→∃ a,a.map strip=new∧Runs l en (.eu .param r.ix) p ns (r.ix ++ f) (p+J.length) (ns ++ a)
 | 0,r,_=>⟨[],[],[],by rw [List.append_nil];rfl,by rw [List.append_nil];rfl,by rw [List.append_nil];rfl,fun l en p ns _ _ h=>⟨[],rfl,by
   rw [List.append_nil,List.append_nil];exact runs_listS h⟩⟩
 | m+1,r,hr=>by
  rw [acO];simp only [hr,if_false];obtain⟨B,h1⟩:=kind_kp wild 2 (acJ wild r.st).tl
  generalize acQ wild 2 (acJ wild r.st).tl=A at h1
  have O:(acJ wild A.st).id=(A.st.ns.length:Int):=by unfold abd.id;rw [acI]
  rw [O];obtain⟨J,f,new,t,u,v,x⟩:=params_ep wild m ⟨r.pc ++ (sgn [44] :: (acP wild r.st,1,acM (acJ wild r.st).nx) :: sgn [58] :: Pcs.on (acP wild A.st) A.pc),r.ix ++ [(A.st.ns.length:Int)],(acJ wild A.st).put ⟨34,acM (acJ wild r.st).nx,0,[A.ix],0⟩⟩ (by simp);have b:(acJ wild r.st).tl.ns=r.st.ns:=by show (acJ wild r.st).ns=_;rw [acI]
  refine⟨sgn [44] :: (acP wild r.st,1,acM (acJ wild r.st).nx) :: sgn [58] :: Pcs.on (acP wild A.st) A.pc ++ J,(A.st.ns.length:Int) :: f,B ++ [⟨34,acM (acJ wild r.st).nx,0,[A.ix],0⟩] ++ new,by rw [t,List.append_assoc],by rw [u];simp,?_,fun l en p ns i k h44=>?_⟩
  ·rw [v];show (acJ wild A.st).ns ++ [_] ++ new=_
   rw [acI,h1.ns,b];simp only [List.append_assoc]
  have q:=i.left.head;have g:=i.left.tail;have c:=i.right;have d:p+(sgn [44] :: (acP wild r.st,1,acM (acJ wild r.st).nx) :: sgn [58] :: Pcs.on (acP wild A.st) A.pc ++ J).length=p+1+(A.pc.length+2)+J.length:=by simp [acS];omega
  rw [show p+(sgn [44] :: (acP wild r.st,1,acM (acJ wild r.st).nx) :: sgn [58] :: Pcs.on (acP wild A.st) A.pc).length=p+1+(A.pc.length+2) by simp [acS];omega] at c
  rw [d] at h44 ⊢
  obtain⟨n,j,r1⟩:=param_one h1 (en:=en) (ns:=ns) g (by rw [b];exact k)
  obtain⟨y,w,r2⟩:=x l en (p+1+(A.pc.length+2)) (ns ++ n) c (by
   show _=((acJ wild A.st).ns ++ [_]).length
   rw [acI,h1.ns,b,List.append_assoc];exact len_eq k j) h44
  refine⟨n ++ y,by rw [List.map_append,j,w],?_⟩
  have:=runs_listT (e:=.param) q.2 r1 r2
  simpa only [List.append_assoc,List.cons_append,List.nil_append] using this
theorem params_all (wild:Bool)(m:Nat)(s:abd):∃ new:List Nd,(acO wild (m+1) ⟨[],[],s⟩).st.ns=s.ns ++ new∧(∃ x R,x ∈ wordsG∧(acO wild (m+1) ⟨[],[],s⟩).pc=([],1,x) :: R) ∧
  ∀ (l:List Tok) (en:Int) (p:Nat) (ns:List Nd),AtP l p (acO wild (m+1) ⟨[],[],s⟩).pc→ns.length=s.ns.length→tx l (p+(acO wild (m+1) ⟨[],[],s⟩).pc.length) ≠ [44] →
   ∃ a,a.map strip=new∧Runs l en (.list .param) p ns (acO wild (m+1) ⟨[],[],s⟩).ix (p+(acO wild (m+1) ⟨[],[],s⟩).pc.length) (ns ++ a):=by
 rw [acO];simp only [if_true];obtain⟨t,h1⟩:=kind_kp wild 2 s.tl
 generalize acQ wild 2 s.tl=A at h1
 have O:(acJ wild A.st).id=(A.st.ns.length:Int):=by unfold abd.id;rw [acI]
 rw [O];obtain⟨J,u,new,c,j,k,q⟩:=params_ep wild m ⟨[] ++ (([],1,acM s.nx) :: sgn [58] :: Pcs.on (acP wild A.st) A.pc),[] ++ [(A.st.ns.length:Int)],(acJ wild A.st).put ⟨34,acM s.nx,0,[A.ix],0⟩⟩ (by simp)
 generalize acO wild m ⟨[] ++ (([],1,acM s.nx) :: sgn [58] :: Pcs.on (acP wild A.st) A.pc),[] ++ [(A.st.ns.length:Int)],(acJ wild A.st).put ⟨34,acM s.nx,0,[A.ix],0⟩⟩=L at *
 refine⟨t ++ [⟨34,acM s.nx,0,[A.ix],0⟩] ++ new,?_,⟨acM s.nx,_,wordG_mem _,by rw [c];rfl⟩,fun l en p ns d h h44=>?_⟩
 ·rw [k];show (acJ wild A.st).ns ++ [_] ++ new=_
  rw [acI,h1.ns];simp only [List.append_assoc];rfl
 ·have f:p+L.pc.length=p+(A.pc.length+2)+J.length:=by rw [c];simp [acS];omega
  rw [f] at h44 ⊢
  rw [c,List.nil_append] at d
  have b:=d.right;rw [show p+(([],1,acM s.nx) :: sgn [58] :: Pcs.on (acP wild A.st) A.pc:Pcs).length=p+(A.pc.length+2) by simp [acS]] at b
  obtain⟨i,g,r1⟩:=param_one h1 (en:=en) (ns:=ns) d.left h
  obtain⟨r,n,r2⟩:=q l en (p+(A.pc.length+2)) (ns ++ i) b (by
   show _=((acJ wild A.st).ns ++ [_]).length
   rw [acI,h1.ns,List.append_assoc];exact len_eq h g) h44
  refine⟨i ++ r,by rw [List.map_append,g,n],?_⟩
  rw [j,← List.append_assoc];exact runs_list (e:=.param) r1 r2
structure IP (s:abd) (r:abb) (new:List Nd):Prop where
 ns:r.st.ns=s.ns ++ new
 run:∀ (l:List Tok) (en:Int) (p:Nat) (ns:List Nd),AtP l p r.pc→ns.length=s.ns.length→tx l (p+r.pc.length)=[59]→∃ new' n0,new'.map strip=new∧∀ n,n0≤n→item l en n p ns=some (.ok [r.ix] (p+r.pc.length) (ns ++ new'))
theorem stop_semi {t:Bs}(h:t=[59]):StopE t:=stop_of h (by decide)
theorem end_ip {s:abd}{I:Pcs}{d:abd}{n:Nd}{new:List Nd}(b:d.ns=s.ns ++ new)
  (q:∀ (l:List Tok) (en:Int) (p:Nat) (ns:List Nd),AtP l p I→ns.length=s.ns.length→tx l (p+I.length)=[59]→∃ a c e,a.map strip=new∧strip c=n∧∀ m,e≤m→item l en m p ns=Mist.add c (p+I.length) (ns ++ a)):IP s (acV I d n) (new ++ [n]):=by
 refine⟨?_,fun l en p ns j g r=>?_⟩
 ·show d.ns ++ [n]=_
  rw [b,List.append_assoc]
 ·obtain⟨a,c,e,f,h,i⟩:=q l en p ns j g r
  refine⟨a ++ [c],e,by rw [List.map_append,f];show new ++ [strip c]=_;rw [h],fun m k=>?_⟩
  have O:(acV I d n).ix=((ns ++ a).length:Int):=by
   show (d.ns.length:Int)=_
   rw [b,len_eq g f]
  rw [O,← List.append_assoc,i m k];rfl
theorem Cn {l:List Tok}{en:Int}{p n:Nat}{ns:List Nd}{w:Bs}{i:It}(h:(tg l p).kind=3∧tx l p=w)(hi:Hr w=some i):item l en n p ns=gI l en n i p ns:=by
 unfold item;rw [if_pos h.1,h.2,hi]
theorem int_at {l:List Tok}{en:Int}{p:Nat}{ns:List Nd}(n:Int)(h1:-140 < n)(h2:n < 140)(a:AtP l p (numPc n)):sN l en p ns=some (.ok [(ns.length:Int)] (p+(numPc n).length) (ns ++ [⟨1,[],n,[],pl l en p⟩])):=by
 unfold numPc at a ⊢
 split
 ·rename_i h
  rw [if_pos h] at a
  obtain⟨m,c⟩:∃ m:Nat,-n=(m:Int):=⟨(-n).toNat,by omega⟩;rw [c] at a
  have b:=a.head;have d:=a.tail.head;unfold sN;rw [if_pos b.2]
  show ite ((tg l (p+1)).kind=2) _ _=_
  rw [if_pos d.1,d.2,(num_of_itoa (n:=m) (by omega)).1,← c,Int.neg_neg];rfl
 ·rename_i h
  rw [if_neg h] at a
  obtain⟨m,c⟩:∃ m:Nat,n=(m:Int):=⟨n.toNat,by omega⟩;subst c;have b:=a.head;have hd:=num_of_itoa (n:=m) (by omega);unfold sN;rw [if_neg (by rw [b.2];exact hd.2.neg)]
  show ite ((tg l p).kind=2) _ _=_
  rw [if_pos b.1,b.2,hd.1];rfl
theorem choose_ip (wild:Bool){x:Bs}(s:abd):∃ new,IP s (chooseG wild x s) new:=by
 unfold chooseG;obtain⟨low,c⟩:∃ low:Int,low=((s.nx % 30:Nat):Int) - 15:=⟨_,rfl⟩;simp only [← c];obtain⟨hi,f⟩:∃ hi:Int,hi=low+(((numberG low s.tl).st.nx % 12:Nat):Int):=⟨_,rfl⟩;rw [← f]
 refine⟨[⟨1,[],low,[],0⟩,⟨1,[],hi,[],0⟩] ++ [⟨40,x,0,_,0⟩],end_ip (by
  rw [acI,acI,acI]
  show (s.ns ++ [_]) ++ [_]=_
  rw [List.append_assoc];rfl) (fun l en p ns b r t=>?_)⟩
 have h:=b.head;have g:=b.tail.head;have j:=b.tail.tail.head;have d:AtP l (p+1+1+1) (numPc low):=b.tail.tail.tail.left.on;have a:=b.tail.tail.tail.right;rw [acS] at a
 have k:_∧tx l (p+1+1+1+(numPc low).length)=[46,46]:=a.head;have e:AtP l (p+1+1+1+(numPc low).length+1) (numPc hi):=a.tail.on
 refine⟨[⟨1,[],low,[],pl l en (p+1+1+1)⟩,⟨1,[],hi,[],pl l en (p+1+1+1+(numPc low).length+1)⟩],⟨40,tx l (p+1),0,[(ns.length:Int),((ns.length+1:Nat):Int)],pl l en p⟩,0,rfl,?_,fun m _=>?_⟩
 ·rw [g.2]
  show (⟨40,x,0,[(ns.length:Int),((ns.length+1:Nat):Int)],0⟩:Nd)=⟨40,x,0,[(s.ns.length:Int),(((s.ns ++ [_]).length:Nat):Int)],0⟩
  rw [r,aaO];rfl
 ·rw [Cn h (i:=.choose) (by decide)];unfold gI
  show ite ((tg l (p+1)).kind=1) _ _=_
  rw [if_pos g.1]
  show ite (tx l (p+2)=[58]) _ _=_
  rw [if_pos j.2];have n:=int_at (en:=en) (ns:=ns) low (by omega) (by omega) d;have q:=int_at (en:=en) (ns:=ns ++ [⟨1,[],low,[],pl l en (p+1+1+1)⟩]) hi (by omega) (by omega) e
  show thn (sN l en (p+1+1+1) ns) _=_
  rw [n]
  show ite (tx l (p+1+1+1+(numPc low).length)=[46,46]) (thn (sN l en (p+1+1+1+(numPc low).length+1) (ns ++ [⟨1,[],low,[],pl l en (p+1+1+1)⟩])) _) _=_
  rw [if_pos k.2,q]
  show Mist.add (⟨40,tx l (p+1),0,[hd [(ns.length:Int)],hd [((ns ++ [(⟨1,[],low,[],pl l en (p+1+1+1)⟩:Nd)]).length:Int)]],pl l en p⟩:Nd) (p+1+1+1+(numPc low).length+1+(numPc hi).length) (ns ++ [_] ++ [_])=_
  refine congr (congr (congrArg Mist.add ?_) ?_) ?_
  ·simp [hd]
  ·simp [acS,numberG,acV];omega
  ·simp
theorem type_ip (wild:Bool){x:Bs}(s:abd):∃ new,IP s (typeG wild x s) new:=by
 unfold typeG;rw [Nat.add_comm 1];obtain⟨new,j,_,r⟩:=params_all wild (s.nx % 6) s.tl;simp only
 generalize acO wild (s.nx % 6+1) ⟨[],[],s.tl⟩=L at *
 refine⟨new ++ [⟨41,x,0,L.ix,0⟩],end_ip (by rw [j];rfl) (fun l en p ns a n C=>?_)⟩
 have f:=a.head;have d:=a.tail.head;have g:=a.tail.tail.head;have h:=a.tail.tail.tail.head;have c:=a.tail.tail.tail.tail.left;have e:=a.tail.tail.tail.tail.right.head;obtain⟨t,k,u,r1⟩:=r l en (p+1+1+1+1) ns c n (by rw [e.2];decide)
 refine⟨t,⟨41,tx l (p+1),0,L.ix,pl l en p⟩,u,k,by rw [d.2];rfl,fun m q=>?_⟩
 rw [Cn f (i:=.record) (by decide)];unfold gI
 show ite ((tg l (p+1)).kind=1) _ _=_
 rw [if_pos d.1]
 show ite (tx l (p+2)=[61]) _ _=_
 rw [if_pos g.2]
 show ite (tx l (p+3)=[123]) _ _=_
 rw [if_pos h.2]
 show thn (run l en m (.list .param) (p+1+1+1+1) ns) _=_
 rw [run_up r1 q]
 show ite (tx l (p+1+1+1+1+L.pc.length)=[125]) _ _=_
 rw [if_pos e.2];have b:∀ v w y A B:Bs × Nat × Bs,p+(v :: w :: y :: A :: (L.pc ++ [B])).length=p+1+1+1+1+L.pc.length+1:=by intros;simp;omega
 rw [b]
theorem uptoN_lt (s:abd):uptoN s < 9:=by unfold uptoN;split <;> omega
theorem itoa_not0:∀ n:Fin 9,0 < n.val→Go.Lib.itoa ((n.val:Nat):Int) ≠ [48]:=by decide +kernel
theorem fun_rest {l:List Tok}{en:Int}{k p:Nat}{ns:List Nd}{ps:List Int}{t:Int}{u:Nat}{e:abd}{B:abb}{d:List Nd}(i:abm e B d){g:Bs}(c:AtP l p ((g,4,[61]) :: B.pc))(j:ns.length=e.ns.length)(q:tx l (p+1+B.pc.length)=[59]) :
  ∃ a b,a.map strip=d∧∀ m,b≤m→kU l en m k ps t u p ns=Mist.add ⟨42,tx l (k+1),u,ps ++ [t] ++ [B.ix],pl l en k⟩ (p+1+B.pc.length) (ns ++ a):=by
 have f:=c.head;obtain⟨r,h,b,r1⟩:=i.expr (en:=en) (ns:=ns) c.tail j (stop_semi q)
 refine⟨r,b,h,fun m n=>?_⟩
 unfold kU
 show ite (tx l p=[61]) _ _=_
 rw [if_pos f.2,run_up r1 n];rfl
theorem fun_tail (wild:Bool){l:List Tok}{en:Int}{k p:Nat}{ns:List Nd}{ps:List Int}{Q C:abd}{K B:abb}{P N:List Nd}(I:abv Q K P)(H:abm C B N)(y:C.ns=K.st.ns){R S v w:Bs}(n:Nat)(U:n < 9)
  (h:AtP l p ((R,4,[41]) :: (S,4,[58]) :: (K.pc ++ ((if 0 < n then [(v,3,([117,112,116,111]:Bs)),(w,2,Go.Lib.itoa (n:Int))] else []) ++ (acP wild (acJ wild (acJ wild B.st)),4,[61]) :: B.pc)))) (J:ns.length=Q.ns.length)
  {e:Nat} (x:e=p+2+K.pc.length+(if 0 < n then 2 else 0)+1+B.pc.length) (L:tx l e=[59]) :
  ∃ b V,b.map strip=P ++ N∧∀ m,V≤m→mg l en m k ps p ns=Mist.add ⟨42,tx l (k+1),(n:Int),ps ++ [K.ix] ++ [B.ix],pl l en k⟩ e (ns ++ b):=by
 have F:=h.head;have G:=h.tail.head;have j:=h.tail.tail.left;have a:=h.tail.tail.right;obtain⟨d,q,M,r1⟩:=I.run l en (p+1+1) ns j J;have f:(ns ++ d).length=C.ns.length:=by rw [y,I.ns];exact len_eq J q
 by_cases h0:0 < n
 ·rw [if_pos h0] at a x
  have W:=a.left.head;have D:=a.left.tail.head;have i:=a.right;obtain⟨g,A,r,r2⟩:=fun_rest (k:=k) (ps:=ps) (t:=K.ix) (u:=n) H (en:=en) i f (by rw [show p+1+1+K.pc.length+[(v,3,([117,112,116,111]:Bs)),(w,2,Go.Lib.itoa (n:Int))].length+1+B.pc.length=e by rw [x];simp];exact L)
  refine⟨d ++ g,max M A,by rw [List.map_append,q,r],fun m T=>?_⟩
  have c:tx l (p+1+1+K.pc.length+1) ≠ [48]:=by rw [D.2];exact itoa_not0 ⟨n,U⟩ h0
  unfold mg
  show ite (tx l p=[41]) _ _=_
  rw [if_pos F.2]
  show ite (tx l (p+1)=[58]) _ _=_
  rw [if_pos G.2]
  show thn (run l en m .typ (p+1+1) ns) _=_
  rw [run_up r1 (by omega)]
  show ite (tx l (p+1+1+K.pc.length)=[117,112,116,111]) (ite (tx l (p+1+1+K.pc.length+1)=[48]) _ (ite ((tg l (p+1+1+K.pc.length+1)).kind=2) (kU l en m k ps K.ix (numOf (tx l (p+1+1+K.pc.length+1)):Nat) (p+1+1+K.pc.length+2) (ns ++ d)) _)) _=_
  rw [if_pos W.2,if_neg c,if_pos D.1,D.2,(num_of_itoa (n:=n) (by omega)).1]
  have:=r2 m (by omega)
  rw [show p+1+1+K.pc.length+[(v,3,([117,112,116,111]:Bs)),(w,2,Go.Lib.itoa (n:Int))].length=p+1+1+K.pc.length+2 by simp] at this
  rw [this,List.append_assoc ns d g,show p+1+1+K.pc.length+2+1+B.pc.length=e by omega]
 ·obtain rfl:n=0:=by omega
  rw [if_neg h0] at a x
  rw [List.nil_append] at a
  obtain⟨g,A,r,r2⟩:=fun_rest (k:=k) (ps:=ps) (t:=K.ix) (u:=0) H (en:=en) a f (by rw [show p+1+1+K.pc.length+1+B.pc.length=e by omega];exact L)
  refine⟨d ++ g,max M A,by rw [List.map_append,q,r],fun m T=>?_⟩
  unfold mg
  show ite (tx l p=[41]) _ _=_
  rw [if_pos F.2]
  show ite (tx l (p+1)=[58]) _ _=_
  rw [if_pos G.2]
  show thn (run l en m .typ (p+1+1) ns) _=_
  rw [run_up r1 (by omega)]
  show ite (tx l (p+1+1+K.pc.length)=[117,112,116,111]) _ (kU l en m k ps K.ix 0 (p+1+1+K.pc.length) (ns ++ d))=_
  rw [if_neg (by rw [a.head.2];decide)]
  have:=r2 m (by omega)
  rw [show ((0:Nat):Int)=0 from rfl] at this
  rw [this,List.append_assoc ns d g,show p+1+1+K.pc.length+1+B.pc.length=e by omega];rfl
theorem fun_ip (wild:Bool){x:Bs}(s:abd):∃ new,IP s (funG wild x s) new:=by
 unfold funG;simp only
 obtain⟨P,g⟩:∃ P,P=acO wild (s.nx % 5) ⟨[],[],s.tl⟩:=⟨_,rfl⟩;rw [← g];obtain⟨Q,t⟩:=kind_kp wild 2 P.st
 generalize acQ wild 2 P.st=K at *
 have L:=uptoN_lt K.st
 generalize uptoN K.st=n at *
 obtain⟨q,f⟩:∃ q,q=if 0 < n then acJ wild K.st.tl else K.st.tl:=⟨_,rfl⟩
 rw [← f];have a:q.ns=K.st.ns:=by rw [f];split;rw [acI];rfl;rfl
 obtain⟨N,r⟩:=expr_ep wild 4 q
 generalize acN wild 4 q=B at *
 clear f;rcases j:s.nx % 5 with _ | m
 ·rw [j] at g
  obtain rfl:P=⟨[],[],s.tl⟩:=g
  refine⟨Q ++ N ++ [⟨42,x,(n:Int),[] ++ [K.ix,B.ix],0⟩],end_ip (by rw [acI,acI,acI,r.ns,a,t.ns,List.append_assoc];rfl) (fun l en p ns d u G=>?_)⟩
  have A:=d.head;have h:=d.tail.head;have C:=d.tail.tail.head;have b:=d.tail.tail.tail;rw [List.nil_append] at b
  obtain⟨w,H,F,r1⟩:=fun_tail wild (k:=p) (ps:=[]) t r a n L (en:=en) (ns:=ns) b u rfl (by
   rw [← G];congr 1;split <;> simp <;> omega)
  refine⟨w,⟨42,tx l (p+1),(n:Int),[] ++ [K.ix] ++ [B.ix],pl l en p⟩,H,F,by rw [h.2];rfl,fun m j=>?_⟩
  rw [Cn A (i:=.zu) (by decide)];unfold gI
  show ite ((tg l (p+1)).kind=1) _ _=_
  rw [if_pos h.1]
  show ite (tx l (p+2)=[40]) (ite (tx l (p+3)=[41]) (mg l en m p [] (p+3) ns) _) _=_
  rw [if_pos C.2,if_pos b.head.2]
  have:=r1 m j
  rw [show p+1+1+1=p+3 by omega] at this
  rw [this]
  congr 1
  split <;> simp <;> omega
 ·rw [j] at g
  obtain⟨new,D,⟨y,R,hy,I⟩,M⟩:=params_all wild m s.tl;rw [← g] at D I M
  clear g
  refine⟨new ++ Q ++ N ++ [⟨42,x,(n:Int),P.ix ++ [K.ix,B.ix],0⟩],end_ip (by rw [acI,acI,acI,r.ns,a,t.ns,D];simp only [List.append_assoc];rfl) (fun l en p ns d u G=>?_)⟩
  have A:=d.head;have h:=d.tail.head;have C:=d.tail.tail.head;have e:=d.tail.tail.tail.left;have b:=d.tail.tail.tail.right;obtain⟨v,J,S,r0⟩:=M l en (p+1+1+1) ns e u (by rw [b.head.2];decide)
  obtain⟨w,H,F,r1⟩:=fun_tail wild (k:=p) (ps:=P.ix) t r a n L (en:=en) (ns:=ns ++ v) b (by rw [D];exact len_eq u J) rfl (by
   rw [← G];congr 1;split <;> simp <;> omega)
  refine⟨v ++ w,⟨42,tx l (p+1),(n:Int),P.ix ++ [K.ix] ++ [B.ix],pl l en p⟩,max H S,by rw [List.map_append,J,F,List.append_assoc],by rw [h.2,List.append_assoc];rfl,fun m j=>?_⟩
  rw [Cn A (i:=.zu) (by decide)];unfold gI;have c:tx l (p+1+1+1) ≠ [41]:=by rw [I] at e;rw [e.head.2];exact (word_hd hy).shut
  show ite ((tg l (p+1)).kind=1) _ _=_
  rw [if_pos h.1]
  show ite (tx l (p+2)=[40]) (ite (tx l (p+1+1+1)=[41]) _ (thn (run l en m (.list .param) (p+1+1+1) ns) _)) _=_
  rw [if_pos C.2,if_neg c,run_up r0 (by omega)]
  show mg l en m p P.ix (p+1+1+1+P.pc.length) (ns ++ v)=_
  rw [r1 m (by omega),List.append_assoc ns v w]
  congr 1
  split <;> simp <;> omega
theorem let_ip (wild:Bool){x:Bs}(s:abd):∃ new,IP s (letItemG wild x s) new:=by
 unfold letItemG;obtain⟨u,e⟩:=expr_ep wild 4 s;simp only
 generalize acN wild 4 s=B at *
 refine⟨u ++ [⟨43,x,0,[B.ix],0⟩],end_ip (by rw [acI,e.ns]) (fun l en p ns b n f=>?_)⟩
 have h:=b.head;have d:=b.tail.head;have j:=b.tail.tail.head;have c:=b.tail.tail.tail.on;have a:∀ (g:Bs) (v w y:Bs × Nat × Bs),p+(v :: w :: y :: Pcs.on g B.pc).length=p+1+1+1+B.pc.length:=by intros;simp [acS];omega
 rw [a] at f ⊢
 obtain⟨r,k,t,r1⟩:=e.expr (en:=en) (ns:=ns) c n (stop_semi f)
 refine⟨r,⟨43,tx l (p+1),0,[B.ix],pl l en p⟩,t,k,by rw [d.2];rfl,fun m q=>?_⟩
 rw [Cn h (i:=.yB) (by decide)];unfold gI
 show ite ((tg l (p+1)).kind=1) _ _=_
 rw [if_pos d.1]
 show ite (tx l (p+2)=[61]) (thn (run l en m .expr (p+1+1+1) ns) _) _=_
 rw [if_pos j.2,run_up r1 q];rfl
theorem observe_ip (wild:Bool){x:Bs}(s:abd):∃ new,IP s (observeG wild x s) new:=by
 unfold observeG;obtain⟨t,e⟩:=expr_ep wild 4 s;simp only
 generalize acN wild 4 s=B at *
 refine⟨t ++ [⟨44,x,0,[B.ix],0⟩],end_ip (by rw [acI,e.ns]) (fun l en p ns b k f=>?_)⟩
 have g:=b.head;have d:=b.tail.head;have h:=b.tail.tail.head;have c:=b.tail.tail.tail;have a:∀ (u v w:Bs × Nat × Bs),p+(u :: v :: w :: B.pc).length=p+1+1+1+B.pc.length:=by intros;simp;omega
 rw [a] at f ⊢
 obtain⟨q,j,r,r1⟩:=e.expr (en:=en) (ns:=ns) c k (stop_semi f)
 refine⟨q,⟨44,tx l (p+1),0,[B.ix],pl l en p⟩,r,j,by rw [d.2];rfl,fun m n=>?_⟩
 rw [Cn g (i:=.observe) (by decide)];unfold gI
 show ite ((tg l (p+1)).kind=1) _ _=_
 rw [if_pos d.1]
 show ite (tx l (p+2)=[58]) (thn (run l en m .expr (p+1+1+1) ns) _) _=_
 rw [if_pos h.2,run_up r1 n];rfl
theorem retract_ip (wild:Bool){x:Bs}(s:abd):∃ new,IP s (retractG wild x s) new:=by
 unfold retractG
 refine⟨[] ++ [⟨45,x,0,[],0⟩],end_ip (by rw [acI,List.append_nil]) (fun l en p ns b d f=>?_)⟩
 have c:=b.head;have a:=b.tail.head
 refine⟨[],⟨45,tx l (p+1),0,[],pl l en p⟩,0,rfl,by rw [a.2];rfl,fun m e=>?_⟩
 rw [Cn c (i:=.kW) (by decide)];unfold gI
 show ite ((tg l (p+1)).kind=1) _ _=_
 rw [if_pos a.1,List.append_nil];rfl
theorem queries:∀ q:Fin 8,gy (sg queriesG (q.val+1))=q.val+1:=by decide
theorem ask_ip (wild:Bool)(q:Nat)(h1:1≤q)(h8:q≤8)(s:abd):∃ new,IP s (askG wild q s) new:=by
 unfold askG;simp only
 have r:gy (sg queriesG q)=q:=by
  have:=queries ⟨q - 1,by omega⟩
  rwa [show q - 1+1=q by omega] at this
 by_cases h7:q=7
 ·subst h7;simp only [if_true,show ¬ ((7:Nat)=8) by decide,if_false]
  refine⟨[] ++ [⟨46,[],7,[],0⟩],end_ip (by rw [acI,List.append_nil];rfl) (fun l en p ns b f c=>?_)⟩
  have d:=b.head;have e:=b.tail.head
  refine⟨[],⟨46,[],7,[],pl l en p⟩,0,rfl,rfl,fun m h=>?_⟩
  rw [Cn d (i:=.ask) (by decide)]
  show wT l en m p ns=_
  unfold wT;rw [e.2,r,List.append_nil];rfl
 by_cases h88:q=8
 ·subst h88;simp only [show ¬ ((8:Nat)=7) by decide,if_true,if_false];rw [Nat.add_comm 1];obtain⟨new,y,_,A⟩:=list_all wild (expr_ep wild 3) (s.nx % 4) s.tl
  generalize acU wild (acN wild 3) (s.nx % 4+1) ⟨[],[],s.tl⟩=L at *
  refine⟨new ++ [⟨46,[],8,L.ix,0⟩],end_ip (by rw [acI,y];rfl) (fun l en p ns b f c=>?_)⟩
  have d:=b.head;have e:=b.tail.head;have j:=b.tail.tail.on;have a:∀ (g:Bs) (v w:Bs × Nat × Bs),p+(v :: w :: Pcs.on g L.pc).length=p+1+1+L.pc.length:=by intros;simp [acS];omega
  rw [a] at c ⊢
  obtain⟨t,n,u,r1⟩:=A l en (p+1+1) ns j f (stop_semi c) (by rw [c];decide)
  refine⟨t,⟨46,[],8,L.ix,pl l en p⟩,u,n,rfl,fun m h=>?_⟩
  rw [Cn d (i:=.ask) (by decide)]
  show wT l en m p ns=_
  unfold wT;rw [e.2,r]
  show thn (run l en m (.list .expr) (p+1+1) ns) _=_
  rw [run_up r1 h];rfl
 ·simp only [h7,h88,if_false];rw [acU,if_pos rfl,acU];obtain⟨C,x⟩:=expr_ep wild 3 s;simp only [List.nil_append]
  generalize acN wild 3 s=B at *
  refine⟨C ++ [⟨46,[],(q:Int),[B.ix],0⟩],end_ip (by rw [acI,x.ns]) (fun l en p ns b f c=>?_)⟩
  have d:=b.head;have e:=b.tail.head;have k:=b.tail.tail.on;have a:∀ (g:Bs) (v w:Bs × Nat × Bs),p+(v :: w :: Pcs.on g B.pc).length=p+1+1+B.pc.length:=by intros;simp [acS];omega
  rw [a] at c ⊢
  obtain⟨t,n,u,r1⟩:=x.expr (en:=en) (ns:=ns) k f (stop_semi c)
  refine⟨t,⟨46,[],(q:Int),[B.ix],pl l en p⟩,u,n,rfl,fun m h=>?_⟩
  rw [Cn d (i:=.ask) (by decide)]
  show wT l en m p ns=_
  unfold wT;rw [e.2,r,if_neg (by omega),if_neg h7,if_neg h88]
  show thn (run l en m .expr (p+1+1) ns) _=_
  rw [run_up r1 h];rfl
theorem item0_ip (wild:Bool)(s:abd):∃ new,IP s (itemG0 wild s) new:=by
 have a:∀ b:abd,b.ns=s.ns→∀ r:abb,(∃ new,IP b r new)→∃ new,IP s r new:=fun b e r ⟨new,h⟩=>⟨new,by rw [h.ns,e],fun l en p ns c d f=>h.run l en p ns c (by rw [e];exact d) f⟩
 unfold itemG0;simp only
 split
 ·exact a s.tl.tl rfl _ (choose_ip wild _)
 split
 ·exact a s.tl.tl rfl _ (type_ip wild _)
 split
 ·exact a s.tl.tl rfl _ (fun_ip wild _)
 split
 ·exact a s.tl.tl rfl _ (let_ip wild _)
 split
 ·exact a s.tl.tl rfl _ (observe_ip wild _)
 split
 ·exact a s.tl.tl rfl _ (retract_ip wild _)
 ·exact a s.tl.tl.tl rfl _ (ask_ip wild _ (by omega) (by omega) _)
theorem grow_ip (wild:Bool):∀ (m:Nat) (r:aa'),∃ (J:Pcs) (f:List Int) (new:List Nd),(growG wild m r).pc=r.pc ++ J∧(growG wild m r).ix=r.ix ++ f∧(growG wild m r).st.ns=r.st.ns ++ new∧f.length≤m ∧
  ∀ (l:List Tok) (en:Int) (p:Nat) (ns:List Nd),AtP l p J→ns.length=r.st.ns.length→l.length=p+J.length→∃ a j,a.map strip=new∧∀ n,j≤n→prog l en n (m+1) p ns r.ix=some (.ok (r.ix ++ f) l.length (ns ++ a))
 | 0,r=>⟨[],[],[],by rw [List.append_nil];rfl,by rw [List.append_nil];rfl,by rw [List.append_nil];rfl,aaJ _,fun l en p ns _ _ h=>⟨[],0,rfl,fun n _=>by
   rw [prog,if_neg (by simp at h;omega),List.append_nil,List.append_nil,show l.length=p by simpa using h]⟩⟩
 | m+1,r=>by
  rw [growG];split
  ·exact⟨[],[],[],by rw [List.append_nil],by rw [List.append_nil],by rw [List.append_nil],aaL _,fun l en p ns _ _ h=>⟨[],0,rfl,fun n _=>by
    rw [prog,if_neg (by simp at h;omega),List.append_nil,List.append_nil,show l.length=p by simpa using h]⟩⟩
  ·unfold itemG;obtain⟨D,h1⟩:=item0_ip wild r.st;simp only
   generalize itemG0 wild r.st=A at h1
   generalize trailG r.st ++ acP wild A.st=g
   obtain⟨J,f,new,v,w,x,G,B⟩:=grow_ip wild m ⟨r.pc ++ (if r.ix=[] then A.pc ++ [(g,4,[59])] else Pcs.on [10] (A.pc ++ [(g,4,[59])])),r.ix ++ [A.ix],acJ wild A.st⟩
   refine⟨(if r.ix=[] then A.pc ++ [(g,4,[59])] else Pcs.on [10] (A.pc ++ [(g,4,[59])])) ++ J,A.ix :: f,D ++ new,by rw [v,List.append_assoc],by rw [w];simp,by rw [x];show (acJ wild A.st).ns ++ new=_;rw [acI,h1.ns,List.append_assoc],by simp;omega,fun l en p ns t u d=>?_⟩
   have e:(if r.ix=[] then A.pc ++ [(g,4,[59])] else Pcs.on [10] (A.pc ++ [(g,4,[59])])).length=A.pc.length+1:=by split <;> simp [acS]
   have c:AtP l p (A.pc ++ [(g,4,[59])]):=by
    have h:=t.left;split at h
    ·exact h
    ·exact h.on
   have b:=t.right;rw [e] at b
   rw [aaO,e] at d
   have k:=c.right.head;obtain⟨i,j,q,r1⟩:=h1.run l en p ns c.left u k.2;obtain⟨C,F,y,r2⟩:=B l en (p+(A.pc.length+1)) (ns ++ i) b (by show _=(acJ wild A.st).ns.length;rw [acI,h1.ns];exact len_eq u q) (by omega)
   refine⟨i ++ C,max j F,by rw [List.map_append,q,y],fun n H=>?_⟩
   rw [prog,if_pos (by omega),r1 n (by omega)]
   show ite (tx l (p+A.pc.length)=[59]) (prog l en n (m+1) (p+A.pc.length+1) (ns ++ i) (r.ix ++ [A.ix])) _=_
   rw [if_pos k.2]
   have:=r2 n (by omega)
   rw [show p+(A.pc.length+1)=p+A.pc.length+1 by omega] at this
   rw [this];simp only [List.append_assoc,List.cons_append,List.nil_append]
theorem atP_toks (I:Pcs):AtP (fO 0 I) 0 I:=fun i g k t e=>by
 rw [Nat.zero_add]
 have:∀ (its:List (Bs × Nat × Bs)) (a p:Nat),its[p]? = some (g,k,t)→(tg (fO a its) p).kind=k∧tx (fO a its) p=t:=by
  intro its
  induction its with
  | nil=>intro a p h;simp at h
  | cons y r d =>
   obtain⟨b,k0,c⟩:=y;intro a p h
   cases p with
   | zero =>
    have h:(b,k0,c)=(g,k,t):=by simpa using h
    injection h with h1 h2;injection h2 with h2 h3;subst h2;subst h3
    exact⟨rfl,rfl⟩
   | succ p=>exact d (a+b.length+c.length) p (by simpa using h)
 exact this I 0 i e
theorem grown_parsed (wild:Bool)(b:Bs)(en:Int):∃ a n,a.map strip=(grown wild b).st.ns∧(grown wild b).ix.length≤12∧prog (fO 0 (grown wild b).pc) en n 13 0 [] []=some (.ok (grown wild b).ix (fO 0 (grown wild b).pc).length a):=by
 unfold grown;obtain⟨J,j,new,c,d,e,g,i⟩:=grow_ip wild 12 ⟨[],[],⟨b,[]⟩⟩;rw [List.nil_append] at c d e
 rw [c,d,e];obtain⟨a,f,h,r1⟩:=i (fO 0 J) en 0 [] (atP_toks J) rfl (by rw [mW];simp);exact⟨a,f,h,g,by simpa using r1 f (aaJ _)⟩
end Mist
