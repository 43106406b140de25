/-
  A part of the proof.
-/
import Derived.Test.YtalghggmkojblaaGreatDoorS22
set_option linter.all false
set_option maxRecDepth 100000
namespace Mist
theorem Us (t r:Bs)(q:r=[]∨∃ c r',r=c :: r'∧dM c=false)(h0:0 < t.length)(g:fF (gt t 0)=true)(j:t.all dM=true)(n:first t ≠ (0,[])):first (t ++ r)=first t:=by
 have m:=uL dM t r j q;have d:=uL dM t [] j (.inl rfl);rw [List.append_nil] at d
 have k:gt (t ++ r) 0=gt t 0:=by cases t <;> simp_all [gt]
 have b:(t ++ r).take (aZ dM (t ++ r))=t:=by rw [m];simp
 have f:t.take (aZ dM t)=t:=by rw [d];simp
 have l:¬ (t ++ r).length=0:=by rw [amQ];omega
 have e:¬ t.length=0:=by omega
 by_cases a:hasB keywords t=true
 ·rw [oN _ l (by rw [k];exact g) (by rw [b];exact a),oN _ e g (by rw [f];exact a),b,f]
 ·by_cases h:t.length≤12
  ·rw [kK _ l (by rw [k];exact g) (by rw [b];exact a) (by rw [m];exact h),kK _ e g (by rw [f];exact a) (by rw [d];exact h),b,f]
  ·exact absurd (oh _ e g (by rw [f];exact a) (by rw [d];exact h)) n
theorem XM (t r:Bs)(l:r=[]∨∃ c r',r=c :: r'∧bJ c=false)(h0:0 < t.length)(j:fF (gt t 0)=false)(hd:bJ (gt t 0)=true)(f:t.all bJ=true)(h:iB t=true):first (t ++ r)=first t:=by
 have m:=uL bJ t r f l;have b:=uL bJ t [] f (.inl rfl);rw [List.append_nil] at b
 have g:gt (t ++ r) 0=gt t 0:=by cases t <;> simp_all [gt]
 have a:(t ++ r).take (aZ bJ (t ++ r))=t:=by rw [m];simp
 have e:t.take (aZ bJ t)=t:=by rw [b];simp
 have k:¬ (t ++ r).length=0:=by rw [amQ];omega
 have d:¬ t.length=0:=by omega
 rw [l9 _ k (by rw [g];simp [j]) (by rw [g];exact hd) (by rw [a];exact h),l9 _ d (by simp [j]) hd (by rw [e];exact h),a,e]
def Zm (E:Bs):List (Bs × Nat × Bs)→Prop
 | []=>True
 | (g,k,t) :: r=>skip (g ++ (t ++ (ah r ++ E)))=g.length∧first (t ++ (ah r ++ E))=(k,t)∧k ≠ 0∧0 < t.length∧Zm E r
theorem IU (E:Bs)(d:skip E=E.length)(b:List (Bs × Nat × Bs)):∀ (a:Bs),Zm E b→Placed (a ++ (ah b ++ E)) (a.length+skip (ah b ++ E)) (nM a.length b):=by
 induction b with
 | nil=>intro a _;show (a ++ (ah [] ++ E)).length≤_;simp [ah,d]
 | cons x r l =>
  obtain⟨g,k,t⟩:=x;intro a f;obtain⟨h1,h2,h3,h4,h5⟩:=f;have hi:=l (a ++ g ++ t) h5;have e:a ++ (ah ((g,k,t) :: r) ++ E)=(a ++ g ++ t) ++ (ah r ++ E):=by simp [ah]
  have j:skip (ah ((g,k,t) :: r) ++ E)=g.length:=by
   rw [← h1];simp [ah]
  rw [j,e]
  have hd:((a ++ g ++ t) ++ (ah r ++ E)).drop (a.length+g.length)=t ++ (ah r ++ E):=by
   rw [List.append_assoc (a ++ g),List.drop_append_of_le_length (by simp)];simp
  have c:((a ++ g ++ t) ++ (ah r ++ E)).drop (a.length+g.length+t.length)=ah r ++ E:=by
   rw [show a.length+g.length+t.length=(a ++ g ++ t).length by simp;omega];simp
  have h:(a ++ g ++ t).length=a.length+g.length+t.length:=by simp;omega
  rw [h] at hi
  refine⟨?_,rfl,by rw [hd];exact h2,h3,?_⟩
  ·simp;omega
  ·show Placed _ (a.length+g.length+t.length+skip (List.drop (a.length+g.length+t.length) _)) _
   rw [c];exact hi
def NP (r:Bs):Prop:=r=[]∨∃ c r',r=c :: r'∧dM c=false
def GH (r:Bs):Prop:=∃ c r',r=c :: r'∧(c=32∨c=10)
theorem GH.np {r:Bs}(h:GH r):NP r:=by
 obtain⟨c,r',rfl,rfl | rfl⟩:=h <;> exact .inr ⟨_,_,rfl,by decide⟩
def tY (g:Bs):Prop:=(∀ r,skip (g ++ r)=g.length+skip r)∧g.all iJ=true
theorem bU:tY []:=⟨fun r=>by simp,rfl⟩
theorem tY.append {g h:Bs}(a:tY g)(b:tY h):tY (g ++ h) :=
 ⟨fun r=>by rw [List.append_assoc,a.1,b.1,amQ];omega,by rw [List.all_append,a.2,b.2];rfl⟩
theorem jS:tY [32]:=⟨fun r=>by show iI false (32 :: r)=_;rw [iI,if_pos (by decide)];rfl,by decide⟩
theorem EM:tY [10]:=⟨fun r=>by show iI false (10 :: r)=_;rw [iI,if_pos (by decide)];rfl,by decide⟩
theorem aaX:∀ g ∈ xR,tY g∧∃ c r',g=c :: r'∧(c=32∨c=10):=by
 intro g a
 have h6:tY [32,35,32,97,59,32,40,10]:=⟨fun r=>by
  show iI false (32 :: 35 :: 32 :: 97 :: 59 :: 32 :: 40 :: 10 :: r)=_
  rw [iI,if_pos (by decide),iI,if_neg (by decide),if_pos (by decide),iI,if_neg (by decide),iI,if_neg (by decide),iI,if_neg (by decide),iI,if_neg (by decide),iI,if_neg (by decide),iI,if_pos (by decide)]
  show _=8+iI false r
  omega,by decide⟩
 unfold xR at a
 simp only [List.mem_cons,List.not_mem_nil,or_false] at a
 rcases a with rfl | rfl | rfl | rfl | rfl | rfl
 ·exact⟨jS,_,_,rfl,.inl rfl⟩
 ·exact⟨jS.append jS,_,_,rfl,.inl rfl⟩
 ·exact⟨EM,_,_,rfl,.inr rfl⟩
 ·exact⟨h6,_,_,rfl,.inl rfl⟩
 ·exact⟨jS,_,_,rfl,.inl rfl⟩
 ·exact⟨(jS.append EM).append jS,_,_,rfl,.inl rfl⟩
theorem wh (l:List Bs)(i:Nat)(h:i < l.length):sg l i ∈ l:=by rw [acU l i h];exact List.getElem_mem h
theorem dZ (a:Bool)(s:Gs):tY (dQ a s)∧∃ c r',dQ a s=c :: r'∧(c=32∨c=10):=by
 unfold dQ;split
 ·exact aaX _ (wh xR _ (by show s.nx % 6 < 6;omega))
 ·exact⟨jS,_,_,rfl,.inl rfl⟩
theorem EN (a:Bool)(s:Gs)(r:Bs):GH (dQ a s ++ r):=by
 obtain⟨_,c,r',h,b⟩:=dZ a s;exact⟨c,r' ++ r,by rw [h];rfl,b⟩
structure rz (k:Nat) (t r:Bs):Prop where
 first:Mist.first (t ++ r)=(k,t)
 kind:k ≠ 0
 pos:0 < t.length
 skip:Mist.skip (t ++ r)=0
 valid:t.all iJ=true
theorem ag_ (b:UInt8)(r:Bs)(h1:xC b=false)(h2:(b == 35)=false):skip (b :: r)=0:=by
 unfold skip;rw [iI,if_neg (by simp [h1]),if_neg (by simp [h2])]
def uw (t:Bs):Bool:=match t with
 | []=>false
 | b :: _=>!xC b && !(b == 35)
theorem tO {t r:Bs}(h:uw t=true):skip (t ++ r)=0:=by
 cases t with
 | nil=>cases h
 | cons b t =>
  unfold uw at h
  rw [amU] at h
  exact ag_ b _ (by simpa using h.1) (by simpa using h.2)
def pV (k:Nat)(t:Bs):Bool:=decide (0 < t.length) && fF (gt t 0) && t.all dM && (first t == (k,t)) && (k != 0) && t.all iJ && uw t
theorem dP {k:Nat}{t r:Bs}(h:pV k t=true)(a:NP r):rz k t r:=by
 unfold pV at h
 simp only [amU,decide_eq_true_eq,bne_iff_ne,beq_iff_eq] at h
 obtain⟨⟨⟨⟨⟨⟨h0,h1⟩,h2⟩,h3⟩,h4⟩,h5⟩,h6⟩:=h;exact⟨by rw [Us t r a h0 h1 h2 (by rw [h3];intro e;injection e with e;exact h4 e),h3],h4,h0,tO h6,h5⟩
def Li (t:Bs):Bool:=decide (0 < t.length) && !fF (gt t 0) && bJ (gt t 0) && t.all bJ && iB t && (first t == (2,t)) && t.all iJ && uw t
theorem Tt {c:UInt8}(h:dM c=false):bJ c=false:=by
 unfold dM at h
 cases hd:bJ c
 ·rfl
 ·rw [hd] at h;simp at h
theorem NP.digit {r:Bs}(h:NP r):r=[]∨∃ c r',r=c :: r'∧bJ c=false:=by
 rcases h with h | ⟨c,r',h,a⟩
 ·exact .inl h
 ·exact .inr ⟨c,r',h,Tt a⟩
theorem DC {t r:Bs}(h:Li t=true)(a:NP r):rz 2 t r:=by
 unfold Li at h
 simp only [amU,decide_eq_true_eq,beq_iff_eq] at h
 obtain⟨⟨⟨⟨⟨⟨⟨h0,h1⟩,h2⟩,h3⟩,h4⟩,h5⟩,h6⟩,h7⟩:=h;exact⟨by rw [XM t r a.digit h0 (by simpa using h1) h2 h3 h4,h5],by decide,h0,tO h7,h6⟩
theorem vU (x:UInt8)(h:x ∈ [40,41,91,93,123,125,44,59,58,43,45,42,47,37])(r:Bs):rz 4 [x] r:=by
 have h1:∀ x ∈ ([40,41,91,93,123,125,44,59,58,43,45,42,47,37]:List UInt8),fF x=false∧bJ x=false∧uw [x]=true∧[x].all iJ=true∧first [x]=(4,[x])∧∀ n:Fin 256,first [x,UInt8.ofNat n.val]=(4,[x]):=by decide +kernel
 obtain⟨a,b,c,d,e,f⟩:=h1 x h
 refine⟨?_,by decide,by simp,tO c,d⟩
 cases r with
 | nil=>exact e
 | cons y r =>
  show first (x :: y :: r)=_
  rw [om _ _ _ a b]
  have:=f ⟨y.toNat,y.toNat_lt⟩
  rwa [show UInt8.ofNat y.toNat=y by simp] at this
theorem yP (x y:UInt8)(h:(x,y) ∈ ([(61,61),(33,61),(60,61),(62,61),(46,46)]:List (UInt8 × UInt8)))(r:Bs):rz 4 [x,y] r:=by
 have h1:∀ p ∈ ([(61,61),(33,61),(60,61),(62,61),(46,46)]:List (UInt8 × UInt8)),fF p.1=false∧bJ p.1=false∧uw [p.1,p.2]=true∧[p.1,p.2].all iJ=true∧first [p.1,p.2]=(4,[p.1,p.2]):=by decide +kernel
 obtain⟨a,b,c,d,e⟩:=h1 _ h
 refine⟨?_,by decide,by simp,tO c,d⟩
 show first (x :: y :: r)=_
 rw [om _ _ _ a b];exact e
theorem FY (x z:UInt8)(h:(x,z) ∈ ([(61,61),(60,61),(62,61),(46,46)]:List (UInt8 × UInt8)))(y:UInt8)(r:Bs)(hy:y ≠ z):rz 4 [x] (y :: r):=by
 have h1:∀ p ∈ ([(61,61),(60,61),(62,61),(46,46)]:List (UInt8 × UInt8)),fF p.1=false∧bJ p.1=false∧uw [p.1]=true∧[p.1].all iJ=true∧∀ n:Fin 256,UInt8.ofNat n.val ≠ p.2→first [p.1,UInt8.ofNat n.val]=(4,[p.1]):=by decide +kernel
 obtain⟨a,b,c,d,f⟩:=h1 _ h
 refine⟨?_,by decide,by simp,tO c,d⟩
 show first (x :: y :: r)=_
 rw [om _ _ _ a b]
 have:=f ⟨y.toNat,y.toNat_lt⟩
 rw [show UInt8.ofNat y.toNat=y by simp] at this
 exact this hy
def jY:eO→Bs→Prop
 | [],_=>True
 | (g,k,t) :: I,r=>tY g∧rz k t (ah I ++ r)∧jY I r
theorem dF:∀ (I J:eO) (r:Bs),jY I (ah J ++ r)→jY J r→jY (I ++ J) r
 | [],_,_,_,h=>h
 | (g,k,t) :: I,J,r,⟨h1,h2,h3⟩,h=>⟨h1,by
  show rz k t (ah (I ++ J) ++ r)
  rw [aX,List.append_assoc];exact h2,dF I J r h3 h⟩
theorem U3 (E:Bs):∀ I:eO,jY I E→Zm E I
 | [],_=>trivial
 | (g,k,t) :: I,⟨h1,h2,h3⟩=>⟨by rw [h1.1,h2.skip];rfl,h2.first,h2.kind,h2.pos,U3 E I h3⟩
theorem D7 (E:Bs):∀ I:eO,jY I E→(ah I).all iJ=true
 | [],_=>rfl
 | (g,k,t) :: I,⟨h1,h2,h3⟩=>by
  show (g ++ (t ++ ah I)).all iJ=true
  rw [List.all_append,List.all_append,h1.2,h2.valid,D7 E I h3];rfl
theorem xX (I:eO)(E:Bs)(h:jY I E)(d:skip E=E.length)(hv:E.all iJ=true)(k:I.length≤800)(j:(ah I ++ E).length≤2000):Mist.read (ah I ++ E)=(nM 0 I,0,0):=by
 have c:=IU E d I [] (U3 E I h);simp only [List.nil_append,List.length_nil,Nat.zero_add] at c
 have a:(ah I ++ E).all iJ=true:=by rw [List.all_append,D7 E I h,hv];rfl
 have f:(check (ah I ++ E)).2=0:=by
  unfold check;rw [if_neg (by omega)]
  have:(ah I ++ E).findIdx? (fun b=>!iJ b)=none:=by
   rw [List.findIdx?_eq_none_iff];intro x g;rw [amT.1 a x g];rfl
  rw [this]
 have e:Mist.read (ah I ++ E)=iq ((ah I ++ E).length+1) (ah I ++ E) (skip (ah I ++ E)) []:=by unfold Mist.read;rw [if_neg (by simpa using f)]
 rw [e,qM _ _ _ _ [] (by omega) (by simp [La];omega) c];rfl
def PI (I:eO):Prop:=∀ r,NP r→jY I r
def SI (I:eO):Prop:=∃ k t R,I=([],k,t) :: R∧∃ c t',t=c :: t'∧c ≠ 61∧c ≠ 46
structure EI (I:eO):Prop where
 good:PI I
 start:SI I
theorem bW {g:Bs}{k:Nat}{t:Bs}{I:eO}{r:Bs}(a:tY g)(b:rz k t (ah I ++ r))(h:jY I r):jY ((g,k,t) :: I) r:=⟨a,b,h⟩
theorem abY:NP []:=.inl rfl
theorem agM {c:UInt8}{r:Bs}(h:dM c=false):NP (c :: r):=.inr ⟨c,r,rfl,h⟩
theorem SI.text {I:eO}(h:SI I)(g:Bs):ah (eO.on g I)=g ++ ah I:=by
 obtain⟨k,t,R,rfl,_⟩:=h
 show (g ++ []) ++ (t ++ ah R)=g ++ ([] ++ (t ++ ah R))
 simp
theorem EI.on {I:eO}(h:EI I){g:Bs}(a:tY g):PI (eO.on g I):=by
 intro r b;have h1:=h.good r b;obtain⟨k,t,R,rfl,_⟩:=h.start;obtain⟨_,h2,h3⟩:=h1;exact⟨by show tY (g ++ []);rw [List.append_nil];exact a,h2,h3⟩
theorem SI.ne {I:eO}(h:SI I)(g:Bs)(r:Bs):∃ c r',ah I ++ r=c :: r'∧c ≠ 61∧c ≠ 46:=by
 obtain⟨k,t,R,rfl,c,a,rfl,h1,h2⟩:=h;exact⟨c,_,rfl,h1,h2⟩
theorem dJ {x:UInt8}(h:x ∈ [40,41,91,93,123,125,44,59,58,43,45,42,47,37]){g:Bs}(b:tY g){I:eO}{r:Bs}(a:jY I r):jY ((g,4,[x]) :: I) r:=bW b (vU x h _) a
theorem wV (a:Bool){I:eO}(s:Gs)(h:PI I):EI (mI a I s):=by
 unfold mI;split
 ·refine⟨fun r _=>?_,_,_,_,rfl,_,_,rfl,by decide,by decide⟩
  refine dJ (by decide) bU (dJ (by decide) bU (dF I _ r (h _ ?_) (dJ (by decide) (dZ a _).1 (dJ (by decide) bU trivial))))
  show NP ((dQ a s.tl ++ ([41] ++ _)) ++ r)
  rw [List.append_assoc];exact (EN a _ _).np
 ·refine⟨fun r _=>?_,_,_,_,rfl,_,_,rfl,by decide,by decide⟩
  exact dJ (by decide) bU (dF I _ r (h _ (agM (by decide))) (dJ (by decide) bU trivial))
theorem adn:∀ x ∈ pG,pV 1 x=true:=by decide +kernel
theorem oU (b:Nat):pV 1 (dD b)=true:=adn _ (wh pG _ (by show b % 8 < 8;omega))
theorem Qj:∀ x ∈ pG,∃ c b,x=c :: b∧c ≠ 61∧c ≠ 46:=by
 intro x a;unfold pG at a
 simp only [List.mem_cons,List.not_mem_nil,or_false] at a
 rcases a with rfl | rfl | rfl | rfl | rfl | rfl | rfl | rfl <;> exact⟨_,_,rfl,by decide,by decide⟩
theorem lS (b:Nat):∃ c a,dD b=c :: a∧c ≠ 61∧c ≠ 46:=Qj _ (wh pG _ (by show b % 8 < 8;omega))
theorem Vr:∀ n:Fin 140,Li (Go.Lib.itoa ((n.val:Nat):Int))=true∧((Go.Lib.itoa ((n.val:Nat):Int)).headD 0 != 61 && (Go.Lib.itoa ((n.val:Nat):Int)).headD 0 != 46)=true:=by decide +kernel
theorem vT (n:Nat)(h:n < 140):Li (Go.Lib.itoa (n:Int))=true:=(Vr ⟨n,h⟩).1
theorem XL (n:Nat)(h:n < 140):∃ c b,Go.Lib.itoa (n:Int)=c :: b∧c ≠ 61∧c ≠ 46:=by
 have h1:=vT n h;have h2:=(Vr ⟨n,h⟩).2
 cases a:Go.Lib.itoa (n:Int) with
 | nil=>rw [a] at h1;exact absurd h1 (by decide)
 | cons c t =>
  have h2:((Go.Lib.itoa (n:Int)).headD 0 != 61 && (Go.Lib.itoa (n:Int)).headD 0 != 46)=true:=h2;rw [a] at h2
  simp only [List.headD_cons,amU,bne_iff_ne] at h2
  exact⟨c,t,rfl,h2.1,h2.2⟩
theorem yG (n:Int)(h1:-140 < n)(h2:n < 140):PI (pQ n)∧SI (pQ n):=by
 unfold pQ;split
 ·obtain⟨m,a⟩:∃ m:Nat,-n=(m:Int):=⟨(-n).toNat,by omega⟩;rw [a];exact⟨fun r b=>dJ (by decide) bU (bW bU (DC (vT m (by omega)) (by simpa [ah] using b)) trivial),_,_,_,rfl,_,_,rfl,by decide,by decide⟩
 ·obtain⟨m,a⟩:∃ m:Nat,n=(m:Int):=⟨n.toNat,by omega⟩;rw [a];obtain⟨c,d,h3,h4⟩:=XL m (by omega);exact⟨fun r b=>bW bU (DC (vT m (by omega)) (by simpa [ah] using b)) trivial,_,_,_,rfl,c,d,h3,h4⟩
theorem JK (b:Nat)(e:b < 60)(s:Gs):EI (nA b s).pc:=by
 unfold nA;split
 ·obtain⟨h1,h2⟩:=yG ((b * 7:Nat):Int) (by omega) (by omega);exact⟨h1,h2⟩
 ·split
  ·refine⟨fun r a=>bW bU (dP ?_ (by simpa [ah] using a)) trivial,?_⟩
   ·split <;> decide
   ·split <;> exact⟨_,_,_,rfl,_,_,rfl,by decide,by decide⟩
  ·refine⟨fun r a=>bW bU (dP (oU b) (by simpa [ah] using a)) trivial,?_⟩
   obtain⟨c,d,h3,h4⟩:=lS b;exact⟨_,_,_,rfl,c,d,h3,h4⟩
theorem aiP (k:Nat)(d:k < 13){r:Bs}(e:GH r):rz (opK k) (sg Pb k) r:=by
 obtain⟨c,r',rfl,a⟩:=e;have h61:c ≠ 61:=by rcases a with rfl | rfl <;> decide
 have b:NP (c :: r'):=agM (by rcases a with rfl | rfl <;> decide)
 match k,d with
 | 0,_=>exact vU 43 (by decide) _
 | 1,_=>exact vU 45 (by decide) _
 | 2,_=>exact vU 42 (by decide) _
 | 3,_=>exact vU 47 (by decide) _
 | 4,_=>exact vU 37 (by decide) _
 | 5,_=>exact yP 61 61 (by decide) _
 | 6,_=>exact yP 33 61 (by decide) _
 | 7,_=>exact FY 60 61 (by decide) _ _ h61
 | 8,_=>exact yP 60 61 (by decide) _
 | 9,_=>exact FY 62 61 (by decide) _ _ h61
 | 10,_=>exact yP 62 61 (by decide) _
 | 11,_=>exact dP (by decide) b
 | 12,_=>exact dP (by decide) b
end Mist
namespace Mist
theorem yQ (p:UInt8→Bool)(s:Bs)(h:s.take (aZ p s)=s):s.all p=true:=by
 unfold aZ at h
 rw [← List.prefix_iff_eq_take.1 (List.takeWhile_prefix p)] at h
 rw [← h];exact List.all_takeWhile
theorem Il (p:UInt8→Bool)(s:Bs)(h:s.all p=true):aZ p s=s.length:=by
 unfold aZ
 induction s with
 | nil=>rfl
 | cons c t a =>
  rw [List.all_cons,amU] at h
  rw [List.takeWhile_cons_of_pos h.1,List.length_cons,a h.2,List.length_cons]
theorem GX {c:UInt8}(h:dM c=true):iJ c=true:=by
 have:∀ n:Fin 256,dM (UInt8.ofNat n.val)=true→iJ (UInt8.ofNat n.val)=true:=by decide +kernel
 have h2:=this ⟨c.toNat,c.toNat_lt⟩;rw [show UInt8.ofNat c.toNat=c by simp] at h2
 exact h2 h
theorem J3 {c:UInt8}(h:dM c=true):(!xC c && !(c == 35))=true:=by
 have:∀ n:Fin 256,dM (UInt8.ofNat n.val)=true→(!xC (UInt8.ofNat n.val) && !(UInt8.ofNat n.val == 35))=true:=by decide +kernel
 have h2:=this ⟨c.toNat,c.toNat_lt⟩;rw [show UInt8.ofNat c.toNat=c by simp] at h2
 exact h2 h
theorem qC {c:UInt8}(h:bJ c=true):dM c=true∧fF c=false:=by
 have:∀ n:Fin 256,bJ (UInt8.ofNat n.val)=true→dM (UInt8.ofNat n.val)=true∧fF (UInt8.ofNat n.val)=false:=by decide +kernel
 have h2:=this ⟨c.toNat,c.toNat_lt⟩;rw [show UInt8.ofNat c.toNat=c by simp] at h2
 exact h2 h
theorem Dw {x:Bs}(h:isName x=true):pV 1 x=true∧x.length≤12:=by
 have d:kind x=1:=by simpa [isName] using h
 unfold kind at d
 split at d
 ·rename_i e
  have f:x.length ≠ 0:=by
   intro f;rw [first,if_pos f] at d;cases d
  have a:=d;unfold first at a
  rw [if_neg f] at a
  by_cases j:fF (gt x 0)=true
  ·rw [if_pos j] at a
   by_cases b:hasB keywords (x.take (aZ dM x))=true
   ·rw [if_pos b] at a;cases a
   ·rw [if_neg b] at a
    by_cases k:aZ dM x≤12
    ·have l:=kK x f j b k;have m:x.take (aZ dM x)=x:=by rw [l] at e;exact e
     have g:=yQ dM x m;have n:aZ dM x=x.length:=Il dM x g
     refine⟨?_,by rw [← n];exact k⟩
     unfold pV
     have r:uw x=true:=by
      cases x with
      | nil=>simp at f
      | cons c t=>exact J3 (amT.1 g c (List.mem_cons_self ..))
     have hv:x.all iJ=true:=amT.2 fun c q=>GX (amT.1 g c q)
     rw [j,g,hv,r,l,m];simp;omega
    ·rw [if_neg k] at a;cases a
  ·rw [if_neg j] at a
   by_cases hd:bJ (gt x 0)=true
   ·rw [if_pos hd] at a
    split at a <;> cases a
   ·rw [if_neg hd] at a
    split at a <;> cases a
 ·cases d
theorem aaM {s:Bs}(h0:0 < s.length)(a:s.all bJ=true)(d:iB s=true):Li s=true:=by
 have h:gt s 0 ∈ s:=by
  cases s with
  | nil=>simp at h0
  | cons c t=>exact List.mem_cons_self ..
 have hd:=amT.1 a _ h;have f:s.take (aZ bJ s)=s:=by rw [Il bJ s a,List.take_length]
 have e:=(qC hd).2;have b:=l9 s (by omega) (by rw [e];decide) hd (by rw [f];exact d);rw [f] at b
 have j:uw s=true:=by
  cases s with
  | nil=>simp at h0
  | cons c t=>exact J3 (qC (amT.1 a c (List.mem_cons_self ..))).1
 have hv:s.all iJ=true:=amT.2 fun c g=>GX (qC (amT.1 a c g)).1
 unfold Li;rw [e,hd,a,d,b,hv,j];simp;exact h0
def afF (s:Bs):Bool:=decide (0 < s.length) && s.all bJ && iB s
theorem Xz:∀ a b:Fin 100,(afF (Go.Lib.itoa ((100 * a.val+b.val:Nat):Int)) && numOf (Go.Lib.itoa ((100 * a.val+b.val:Nat):Int)) == 100 * a.val+b.val)=true:=by decide +kernel
theorem aby {n:Nat}(h:n < 10000):Li (Go.Lib.itoa (n:Int))=true∧numOf (Go.Lib.itoa (n:Int))=n∧(Go.Lib.itoa (n:Int)).length≤4:=by
 have:=Xz ⟨n / 100,by omega⟩ ⟨n % 100,by omega⟩
 simp only at this
 rw [show 100 * (n / 100)+n % 100=n by omega] at this
 unfold afF at this
 simp only [amU,decide_eq_true_eq,beq_iff_eq] at this
 obtain⟨⟨⟨h1,h2⟩,h3⟩,h4⟩:=this
 refine⟨aaM h1 h2 h3,h4,?_⟩
 unfold iB at h3
 simp only [amU,decide_eq_true_eq] at h3
 exact h3.1
theorem JD {n:Int}(h0:0≤n)(h:n < 10000):Li (Go.Lib.itoa n)=true∧(numOf (Go.Lib.itoa n):Int)=n∧(Go.Lib.itoa n).length≤4:=by
 obtain⟨m,rfl⟩:=Int.eq_ofNat_of_zero_le h0;obtain⟨a,b,c⟩:=aby (n:=m) (by omega);exact⟨a,by rw [b],c⟩
def aaW (b:Bool):Bs:=if b then [32] else []
def pcP (p:Pz):Bs × Nat × Bs:=(aaW p.blank,kind p.text,p.text)
def MI (l:List Pz):eO:=l.map pcP
theorem Fg (a b:List Pz):MI (a ++ b)=MI a ++ MI b:=List.map_append ..
theorem oP:∀ l:List Pz,ah (MI l)=dX l
 | []=>rfl
 | p :: l=>by
  show aaW p.blank ++ (p.text ++ ah (MI l))=_
  rw [oP l];rfl
theorem U2 (b:Bool):tY (aaW b):=by
 cases b
 ·exact bU
 ·exact jS
def Gd (l:List Pz):Prop:=PI (MI l)
def Np (l:List Pz):Prop:=∀ r,NP r→NP (dX l ++ r)
def Wd (t:Bs):Prop:=∀ r,NP r→rz (kind t) t r
theorem pq:Gd []:=fun _ _=>trivial
theorem qd:Np []:=fun r h=>h
theorem Gy (t:Bs)(n:Int)(l:List Pz):Np (⟨t,true,n⟩ :: l):=fun r _=>.inr ⟨32,t ++ dX l ++ r,by simp [dX],by decide⟩
theorem nN (t:Bs)(n:Int)(l:List Pz):Np (lz t n :: l):=Gy t n l
theorem gJ {c:UInt8}(h:dM c=false)(t:Bs)(b:Bool)(n:Int)(l:List Pz):Np (⟨c :: t,b,n⟩ :: l):=by
 cases b
 ·exact fun r _=>.inr ⟨c,t ++ dX l ++ r,by simp [dX],h⟩
 ·exact Gy _ _ _
theorem Fb {l:List Pz}(h:l ≠ [])(m:List Pz):Np (cZ true l ++ m):=by
 cases l with
 | nil=>exact absurd rfl h
 | cons p l=>exact Gy _ _ _
theorem BI {l:List Pz}(h:l ≠ []):Np (cZ true l):=by
 have:=Fb h []
 rwa [List.append_nil] at this
theorem EO {p:Pz}{l:List Pz}(h:∀ r,NP r→rz (kind p.text) p.text (dX l ++ r))(b:Gd l):Gd (p :: l):=fun r a =>
 ⟨U2 _,by show rz (kind p.text) p.text (ah (MI l) ++ r);rw [oP];exact h r a,b r a⟩
theorem IY {k:Nat}{t:Bs}(h:first t=(k,t)):kind t=k:=by
 unfold kind;rw [h];simp
theorem rz.own {k:Nat}{t:Bs}(h:rz k t []):Mist.kind t=k:=IY (by have:=h.first;rwa [List.append_nil] at this)
theorem gV {x:UInt8}(h:x ∈ [40,41,91,93,123,125,44,59,58,43,45,42,47,37])(b:Bool)(n:Int){l:List Pz}(a:Gd l):Gd (⟨[x],b,n⟩ :: l):=by
 refine EO (fun r _=>?_) a
 show rz (kind [x]) [x] _
 rw [(vU x h []).own];exact vU x h _
theorem F7 {x y:UInt8}(h:(x,y) ∈ ([(61,61),(33,61),(60,61),(62,61),(46,46)]:List (UInt8 × UInt8)))(b:Bool)(n:Int){l:List Pz}(a:Gd l):Gd (⟨[x,y],b,n⟩ :: l):=by
 refine EO (fun r _=>?_) a
 show rz (kind [x,y]) [x,y] _
 rw [(yP x y h []).own];exact yP x y h _
theorem F6 {x z:UInt8}(h:(x,z) ∈ ([(61,61),(60,61),(62,61),(46,46)]:List (UInt8 × UInt8)))(b:Bool)(n:Int){l:List Pz}(d:Gd l)(f:∃ c r',dX l=c :: r'∧c ≠ z):Gd (⟨[x],b,n⟩ :: l):=by
 refine EO (fun r _=>?_) d;obtain⟨c,r',e,a⟩:=f
 show rz (kind [x]) [x] _
 have h4:kind [x]=4:=by
  have:∀ p ∈ ([(61,61),(60,61),(62,61),(46,46)]:List (UInt8 × UInt8)),kind [p.1]=4:=by decide +kernel
  exact this _ h
 rw [h4,e];exact FY x z h c _ a
theorem ai1 {z:UInt8}(a:(32:UInt8) ≠ z)(t:Bs)(n:Int)(l:List Pz):∃ c r',dX (lz t n :: l)=c :: r'∧c ≠ z:=⟨32,t ++ dX l,rfl,a⟩
theorem Fj {z:UInt8}(a:(32:UInt8) ≠ z){l:List Pz}(h:l ≠ [])(m:List Pz):∃ c r',dX (cZ true l ++ m)=c :: r'∧c ≠ z:=by
 cases l with
 | nil=>exact absurd rfl h
 | cons p l=>exact⟨32,_,rfl,a⟩
theorem dV {t:Bs}(h:Wd t)(b:Bool)(n:Int){l:List Pz}(a:Gd l)(c:Np l):Gd (⟨t,b,n⟩ :: l):=EO (fun r d=>h _ (c r d)) a
theorem gU (b:Bool){l:List Pz}(h:Gd l):Gd (cZ b l):=by
 cases l with
 | nil=>exact h
 | cons p l=>exact fun r a=>⟨U2 _,(h r a).2⟩
theorem jL {a b:List Pz}(d:Gd a)(e:Gd b)(f:Np b):Gd (a ++ b):=fun r c=>by
 rw [Fg];exact dF _ _ r (d _ (by rw [oP];exact f r c)) (e r c)
theorem Fq {k:Nat}{t:Bs}(h:pV k t=true):Wd t:=fun r a=>by
 rw [(dP (k:=k) h abY).own];exact dP h a
theorem lq {x:Bs}(h:isName x=true):Wd x:=Fq (Dw h).1
theorem ahd {t:Bs}(h:Li t=true):Wd t:=fun r a=>by
 rw [(DC h abY).own];exact DC h a
theorem Fp {n:Int}(h0:0≤n)(h:n < 10000):Wd (Go.Lib.itoa n):=ahd (JD h0 h).1
theorem Oe {L:Nat→List Pz}:∀ m,(∀ j,j < m→Gd (L j)∧L j ≠ [])→Gd (gH L m)
 | 0,_=>pq
 | m+1,h=>by
  rw [gH];split
  ·rename_i h0;subst h0;exact (h 0 (by omega)).1
  ·exact jL (Oe m fun j a=>h j (by omega)) (gV (by decide) _ _ (gU _ (h m (by omega)).1)) (gJ (by decide) _ _ _ _)
theorem ad1 {T:Tr}{B:Nat→List Pz}{i j:Nat}(h:Gd (B ((nd T i).kids.getD j 0).toNat)):Gd (dU T B i j):=by
 unfold dU;simp only
 split
 ·exact h
 ·exact gV (by decide) _ _ (jL (gU _ h) (gV (by decide) _ _ pq) (gJ (by decide) _ _ _ _))
structure NmZ (n:Nd):Prop where
 Vo:n.kind=33→1≤n.n∧n.n≤6
 fn:n.kind=42→0≤n.n∧n.n≤8
theorem ae5 {k:Nat}(h:6≤k∧k≤18)(b:Bool)(n:Int){l:List Pz}(m:Gd l)(d:l ≠ []):Gd (⟨Ej k,b,n⟩ :: cZ true l):=by
 have q:Wd [97,110,100]:=Fq (k:=3) (by decide +kernel);have f:Wd [111,114]:=Fq (k:=3) (by decide +kernel);have a:=gU true m;have e:=BI d
 have g:∀ z:UInt8,(32:UInt8) ≠ z→∃ c r',dX (cZ true l)=c :: r'∧c ≠ z:=fun z r=>by
  have:=Fj r d []
  rwa [List.append_nil] at this
 have j:k=6∨k=7∨k=8∨k=9∨k=10∨k=11∨k=12∨k=13∨k=14∨k=15∨k=16∨k=17∨k=18:=by omega
 rcases j with rfl | rfl | rfl | rfl | rfl | rfl | rfl | rfl | rfl | rfl | rfl | rfl | rfl
 ·exact gV (by decide) _ _ a
 ·exact gV (by decide) _ _ a
 ·exact gV (by decide) _ _ a
 ·exact gV (by decide) _ _ a
 ·exact gV (by decide) _ _ a
 ·exact F7 (by decide) _ _ a
 ·exact F7 (by decide) _ _ a
 ·exact F6 (z:=61) (by decide) _ _ a (g _ (by decide))
 ·exact F7 (by decide) _ _ a
 ·exact F6 (z:=61) (by decide) _ _ a (g _ (by decide))
 ·exact F7 (by decide) _ _ a
 ·exact dV q _ _ a e
 ·exact dV f _ _ a e
theorem TD:∀ q:Fin 9,0 < q.val→pV 3 (lJ.getD q.val [])=true:=by decide +kernel
end Mist
namespace Mist
theorem Tf {x:Bs}(h:isName x=true):∃ c t,x=c :: t∧fF c=true:=by
 have h2:=(Dw h).1;unfold pV at h2
 simp only [amU,decide_eq_true_eq] at h2
 obtain⟨⟨⟨⟨⟨⟨h0,h1⟩,_⟩,_⟩,_⟩,_⟩,_⟩:=h2
 cases x with
 | nil=>simp at h0
 | cons c t=>exact⟨c,t,rfl,h1⟩
theorem ade {c:UInt8}(h:fF c=true):c ≠ 46∧c ≠ 61:=by
 constructor <;> (rintro rfl;exact absurd h (by decide))
theorem RtZ.cases {T:Tr}{i:Nat}(h:RtZ T i):(nd T i).kind < 47∧0 < (nd T i).kind∧¬ (27≤(nd T i).kind∧(nd T i).kind < 30)∧¬ (35≤(nd T i).kind∧(nd T i).kind < 40):=by
 have a:=h.kind;simp [iT,kg,fM] at a
 omega
theorem RtZ.nm {T:Tr}{i:Nat}(h:RtZ T i){k:Nat}(a:(nd T i).kind=k)(b:iM k=true):isName (nd T i).text=true:=by
 rw [← h.named,a,b]
theorem RtZ.len {T:Tr}{i:Nat}(h:RtZ T i){k m:Nat}(a:(nd T i).kind=k)(b:∀ n:Nd,n.kind=k→kH n=true→n.kids.length=m):(nd T i).kids.length=m:=b _ a h.many
theorem many1 {k:Nat}(h:k ∈ [4,5,22,25,33,34,43,44])(n:Nd)(e:n.kind=k)(a:kH n=true):n.kids.length=1:=by
 simp at h
 rcases h with rfl | rfl | rfl | rfl | rfl | rfl | rfl | rfl <;> simpa [kH,e] using a
theorem uQ {k:Nat}(h:6≤k∧k≤18∨k=20∨k=23∨k=40)(n:Nd)(e:n.kind=k)(a:kH n=true):n.kids.length=2:=by
 rcases (by omega:k=6∨k=7∨k=8∨k=9∨k=10∨k=11∨k=12∨k=13∨k=14∨k=15∨k=16∨k=17∨k=18∨k=20∨k=23∨k=40) with rfl | rfl | rfl | rfl | rfl | rfl | rfl | rfl | rfl | rfl | rfl | rfl | rfl | rfl | rfl | rfl <;> simpa [kH,e] using a
theorem abQ (n:Nd)(e:n.kind=19)(a:kH n=true):n.kids.length=3:=by simpa [kH,e] using a
theorem Te (n:Nd)(e:n.kind=42)(a:kH n=true):2≤n.kids.length:=by simpa [kH,e] using a
theorem afE {k:Nat}(h:k=24∨k=26∨k=41)(n:Nd)(e:n.kind=k)(a:kH n=true):1≤n.kids.length:=by
 rcases h with rfl | rfl | rfl <;> simpa [kH,e] using a
theorem aen {n:Nd}(e:n.kind=1)(h:gL n=true):-9999≤n.n∧n.n≤9999:=by simpa [gL,e,within] using h
theorem abZ {n:Nd}(e:n.kind=46)(h:gL n=true):1≤n.n∧n.n≤8:=by simpa [gL,e,within] using h
theorem Mj {t:Bs}(h:pV 3 t=true):Wd t:=Fq h
section
variable {T:Tr} {i:Nat} {B:Nat→List Pz}
theorem aiF (h:RtZ T i)(u:NmZ (nd T i))(q:∀ j,j < (nd T i).kids.length→Gd (B ((nd T i).kids.getD j 0).toNat)∧B ((nd T i).kids.getD j 0).toNat ≠ []):Gd (bQ T B i):=by
 have gk:∀ j,j < (nd T i).kids.length→Gd (dU T B i j):=fun j f=>ad1 (q j f).1
 have ne:∀ j,j < (nd T i).kids.length→dU T B i j ≠ []:=fun j f=>Ve (q j f).2
 have l:∀ m,m≤(nd T i).kids.length→Gd (ig T B i m):=fun m C=>Oe m fun j f=>⟨gk j (by omega),ne j (by omega)⟩
 have d:=l _ (amL _);have a:∀ {x:UInt8} (h:x ∈ [40,41,91,93,123,125,44,59,58,43,45,42,47,37]) (m:Int),Gd [tz [x] m]:=fun h m=>gV h _ _ pq
 obtain⟨c1,c2,c3,c4⟩:=h.cases;have g:(nd T i).kind=1∨(nd T i).kind=2∨((nd T i).kind=3∨(nd T i).kind=32)∨(nd T i).kind=4∨(nd T i).kind=5∨(6≤(nd T i).kind∧(nd T i).kind≤18)∨(nd T i).kind=19∨(nd T i).kind=20∨(nd T i).kind=21∨(nd T i).kind=22∨(nd T i).kind=23∨(nd T i).kind=24∨((nd T i).kind=25∨(nd T i).kind=34)∨(nd T i).kind=26∨(nd T i).kind=30∨(nd T i).kind=31∨(nd T i).kind=33∨(nd T i).kind=40∨(nd T i).kind=41∨(nd T i).kind=42∨(nd T i).kind=43∨(nd T i).kind=44∨(nd T i).kind=45∨(nd T i).kind=46:=by omega
 rcases g with e | e | e | e | e | e | e | e | e | e | e | e | e | e | e | e | e | e | e | e | e | e | e | e
 ·rw [wM e];have k:=aen e h.num;unfold nG;split
  ·exact gV (by decide) _ _ (dV (Fp (by omega) (by omega)) _ _ pq qd)
  ·exact dV (Fp (by omega) (by omega)) _ _ pq qd
 ·rw [E8 e];split
  ·exact dV (Mj (by decide +kernel)) _ _ pq qd
  ·exact dV (Mj (by decide +kernel)) _ _ pq qd
 ·rcases e with e | e
  ·rw [E9 e];exact dV (lq (h.nm e (by decide))) _ _ pq qd
  ·rw [Bo e];exact dV (lq (h.nm e (by decide))) _ _ pq qd
 ·rw [E_ e];have b:=h.len e (many1 (by decide));exact gV (by decide) _ _ (gU _ (gk 0 (by omega)))
 ·rw [Fa e];have b:=h.len e (many1 (by decide));exact dV (Mj (by decide +kernel)) _ _ (gU _ (gk 0 (by omega))) (BI (ne 0 (by omega)))
 ·rw [BH (.inr (.inl e))];have b:=h.len rfl (uQ (by omega));exact jL (gk 0 (by omega)) (ae5 e _ _ (gk 1 (by omega)) (ne 1 (by omega))) (nN _ _ _)
 ·rw [AV e];have b:=h.len e abQ;exact dV (Mj (by decide +kernel)) _ _ (jL (gU _ (gk 0 (by omega))) (dV (Mj (by decide +kernel)) _ _ (jL (gU _ (gk 1 (by omega))) (dV (Mj (by decide +kernel)) _ _ (gU _ (gk 2 (by omega))) (BI (ne 2 (by omega)))) (nN _ _ _)) (Fb (ne 1 (by omega)) _)) (nN _ _ _)) (Fb (ne 0 (by omega)) _)
 ·rw [AX e];have b:=h.len e (uQ (by omega));exact dV (Mj (by decide +kernel)) _ _ (dV (lq (h.nm e (by decide))) _ _ (F6 (z:=61) (by decide) _ _ (jL (gU _ (gk 0 (by omega))) (dV (Mj (by decide +kernel)) _ _ (gU _ (gk 1 (by omega))) (BI (ne 1 (by omega)))) (nN _ _ _)) (Fj (by decide) (ne 0 (by omega)) _)) (nN _ _ _)) (nN _ _ _)
 ·rw [AY e];exact dV (lq (h.nm e (by decide))) _ _ (gV (by decide) _ _ (jL (gU _ d) (a (by decide) _) (gJ (by decide) _ _ _ _))) (gJ (by decide) _ _ _ _)
 ·rw [AZ e];have b:=h.len e (many1 (by decide));have v:=h.nm e (by decide);obtain⟨c,t,w,y⟩:=Tf v;exact jL (gk 0 (by omega)) (F6 (z:=46) (by decide) _ _ (dV (lq v) _ _ pq qd) ⟨c,t ++ [],by show [] ++ ((nd T i).text ++ [])=_;rw [w];rfl,(ade y).1⟩) (gJ (by decide) _ _ _ _)
 ·rw [A_ e];have b:=h.len e (uQ (by omega));exact jL (gk 0 (by omega)) (gV (by decide) _ _ (jL (gU _ (gk 1 (by omega))) (a (by decide) _) (gJ (by decide) _ _ _ _))) (gJ (by decide) _ _ _ _)
 ·rw [Bb e];exact dV (lq (h.nm e (by decide))) _ _ (gV (by decide) _ _ (jL (gU _ d) (a (by decide) _) (gJ (by decide) _ _ _ _))) (gJ (by decide) _ _ _ _)
 ·rcases e with e | e
  ·rw [Bf e];have b:=h.len e (many1 (by decide));exact dV (lq (h.nm e (by decide))) _ _ (gV (by decide) _ _ (gU _ (gk 0 (by omega)))) (gJ (by decide) _ _ _ _)
  ·rw [Bt e];have b:=h.len e (many1 (by decide));exact dV (lq (h.nm e (by decide))) _ _ (gV (by decide) _ _ (gU _ (gk 0 (by omega)))) (gJ (by decide) _ _ _ _)
 ·rw [Bg e];exact gV (by decide) _ _ (jL (gU _ d) (a (by decide) _) (gJ (by decide) _ _ _ _))
 ·rw [Bh e];exact dV (Mj (by decide +kernel)) _ _ pq qd
 ·rw [Bl e];exact dV (Mj (by decide +kernel)) _ _ pq qd
 ·rw [Br e];have b:=h.len e (many1 (by decide));have k:=u.Vo e;exact gV (by decide) _ _ (jL (gU _ (gk 0 (by omega))) (gV (by decide) _ _ (dV (Fp (by omega) (by omega)) _ _ (a (by decide) _) (gJ (by decide) _ _ _ _))) (gJ (by decide) _ _ _ _))
 ·rw [Bu e];have b:=h.len e (uQ (by omega));exact dV (Mj (by decide +kernel)) _ _ (dV (lq (h.nm e (by decide))) _ _ (gV (by decide) _ _ (jL (gU _ (gk 0 (by omega))) (F7 (by decide) _ _ (jL (gU _ (gk 1 (by omega))) (a (by decide) _) (gJ (by decide) _ _ _ _))) (gJ (by decide) _ _ _ _))) (gJ (by decide) _ _ _ _)) (nN _ _ _)
 ·rw [Bw e];exact dV (Mj (by decide +kernel)) _ _ (dV (lq (h.nm e (by decide))) _ _ (F6 (z:=61) (by decide) _ _ (gV (by decide) _ _ (jL (gU _ d) (gV (by decide) _ _ (a (by decide) _)) (gJ (by decide) _ _ _ _))) (ai1 (by decide) _ _ _)) (nN _ _ _)) (nN _ _ _)
 ·rw [Bz e];have b:=Te _ e h.many;have k:=u.fn e;have r:Gd (lz [61] (-1) :: (cZ true (dU T B i ((nd T i).kids.length - 1)) ++ [tz [59] (-1)])):=F6 (z:=61) (by decide) _ _ (jL (gU _ (gk _ (by omega))) (a (by decide) _) (gJ (by decide) _ _ _ _)) (Fj (by decide) (ne _ (by omega)) _);refine dV (Mj (by decide +kernel)) _ _ (dV (lq (h.nm e (by decide))) _ _ (gV (by decide) _ _ (jL (gU _ (l _ (by omega))) (gV (by decide) _ _ (gV (by decide) _ _ (jL (gU _ (gk _ (by omega))) ?_ ?_))) (gJ (by decide) _ _ _ _))) (gJ (by decide) _ _ _ _)) (nN _ _ _)
  ·split
   ·exact dV (Mj (by decide +kernel)) _ _ (dV (Fp (by omega) (by omega)) _ _ r (nN _ _ _)) (nN _ _ _)
   ·exact r
  ·split
   ·exact nN _ _ _
   ·exact nN _ _ _
 ·rw [BA e];have b:=h.len e (many1 (by decide));exact dV (Mj (by decide +kernel)) _ _ (dV (lq (h.nm e (by decide))) _ _ (F6 (z:=61) (by decide) _ _ (jL (gU _ (gk 0 (by omega))) (a (by decide) _) (gJ (by decide) _ _ _ _)) (Fj (by decide) (ne 0 (by omega)) _)) (nN _ _ _)) (nN _ _ _)
 ·rw [BD e];have b:=h.len e (many1 (by decide));exact dV (Mj (by decide +kernel)) _ _ (dV (lq (h.nm e (by decide))) _ _ (gV (by decide) _ _ (jL (gU _ (gk 0 (by omega))) (a (by decide) _) (gJ (by decide) _ _ _ _))) (gJ (by decide) _ _ _ _)) (nN _ _ _)
 ·rw [BF e];exact dV (Mj (by decide +kernel)) _ _ (dV (lq (h.nm e (by decide))) _ _ (a (by decide) _) (gJ (by decide) _ _ _ _)) (nN _ _ _)
 ·rw [BG e];have k:=abZ e h.num;have A:=TD ⟨(nd T i).n.toNat,by omega⟩ (by show 0 < (nd T i).n.toNat;omega);refine dV (Mj (by decide +kernel)) _ _ (dV (Mj A) _ _ (jL (gU _ d) (a (by decide) _) (gJ (by decide) _ _ _ _)) ?_) (nN _ _ _);rcases Nat.eq_zero_or_pos (nd T i).kids.length with h0 | h0
  ·rw [h0];exact gJ (by decide) _ _ _ _
  ·exact Fb (OJ (ne 0 h0) h0) _
end
end Mist
