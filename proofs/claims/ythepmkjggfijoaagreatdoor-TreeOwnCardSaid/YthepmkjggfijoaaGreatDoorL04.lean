/-
  A part of the proof.
-/
import Derived.Test.YthepmkjggfijoaaGreatDoorSA
import Derived.Test.YthepmkjggfijoaaGreatDoorL03
set_option linter.all false
set_option maxRecDepth 100000
namespace Mist
theorem mI (ay:Bool)(s:bB)(k:Nat)(t:Bs)(J:bN)(r:Bs):Ob (aN ((bG ay s,k,t) :: J) ++ r):=by
 show Ob ((bG ay s ++ (t ++ aN J)) ++ r)
 rw [List.append_assoc];exact zZ ay s _
theorem CG {I:bN}(h:D_ I)(ay:Bool)(s:bB)(r:Bs):Ob (aN (bN.on (bG ay s) I) ++ r):=by
 rw [h.text,List.append_assoc];exact zZ ay s _
theorem Wo (I J:bN)(r:Bs):aN (I ++ J) ++ r=aN I ++ (aN J ++ r):=by rw [qZ,List.append_assoc]
theorem Q5 {I:bN}(h:D_ I)(ay:Bool)(s:bB)(J:bN)(r:Bs):Ob (aN (bN.on (bG ay s) I ++ J) ++ r):=by
 rw [Wo];exact CG h ay s _
theorem jR {c:UInt8}(h:dI c=false)(J:bN)(r:Bs):KR (aN (bR [c] :: J) ++ r):=Zi h
theorem V3 {x z:UInt8}(h:(x,z) ∈ ([(61,61),(60,61),(62,61),(46,46)]:List (UInt8 × UInt8))){I:bN}(d:D_ I)(J:bN)(r:Bs):AA 4 [x] (aN (I ++ J) ++ r):=by
 rw [Wo];obtain⟨c,f,e,h1,h2⟩:=d.ne [] (aN J ++ r);rw [e];refine BN x z h c f ?_;simp only [List.mem_cons,Prod.mk.injEq,List.not_mem_nil,or_false] at h
 rcases h with ⟨_,rfl⟩ | ⟨_,rfl⟩ | ⟨_,rfl⟩ | ⟨_,rfl⟩ <;> assumption
theorem D_.append {I:bN}(h:D_ I)(J:bN):D_ (I ++ J):=by
 obtain⟨k,t,R,rfl,h⟩:=h;exact⟨k,t,R ++ J,rfl,h⟩
theorem DK {c:UInt8}(h:c ≠ 61∧c ≠ 46)(J:bN):D_ (bR [c] :: J):=⟨_,_,_,rfl,c,[],rfl,h⟩
section
variable (ay:Bool) {E:bB→j4} (hE:∀ s,yx (E s).pc)
include hE
theorem QW (b:Nat)(s:bB):yx (zV ay E b s).pc:=by
 refine uX _ _ (fun r e=>?_);have h:=(hE s).on (bT ay (E s).st).1 r e;by_cases d:b % 2=0
 ·rw [if_pos d];exact bn aX (bS (by decide) (CG (hE s).start ay _ r).np) h
 ·rw [if_neg d];exact bM (by decide) aX h
theorem Oh (b:Nat)(s:bB):yx (CW ay E b s).pc :=
 uX _ _ (fun r d=>bH _ _ r ((hE s).good _ (mI ay _ _ _ _ r).np) (bn (bT ay _).1 (op_ok (b % 13) (by omega) (CG (hE _).start ay _ r)) ((hE _).on (bT ay _).1 r d)))
theorem TR (s:bB):yx (SH ay E s).pc :=
 uX _ _ (fun r d=>bn aX (bS (by decide) (Q5 (hE s).start ay _ _ r).np) (bH _ _ r ((hE s).on (bT ay _).1 _ (mI ay _ _ _ _ r).np)
  (bn (bT ay _).1 (bS (by decide) (Q5 (hE _).start ay _ _ r).np) (bH _ _ r ((hE _).on (bT ay _).1 _ (mI ay _ _ _ _ r).np)
   (bn (bT ay _).1 (bS (by decide) (CG (hE _).start ay _ r).np) ((hE _).on (bT ay _).1 r d))))))
theorem Qx {x:Bs}(e:vX 1 x=true)(s:bB):yx (BF ay E x s).pc :=
 uX _ _ (fun r d=>bn aX (bS (by decide) (mI ay _ _ _ _ r).np) (bn (bT ay _).1 (bS e (mI ay _ _ _ _ r).np) (bn (bT ay _).1 (V3 (z:=61) (by decide) (hE s).start _ r)
  (bH _ _ r ((hE s).good _ (mI ay _ _ _ _ r).np) (bn (bT ay _).1 (bS (by decide) (CG (hE _).start ay _ r).np) ((hE _).on (bT ay _).1 r d))))))
def NA (r:oG):Prop:=(r.ix=[]→r.pc=[])∧(r.ix ≠ []→yx r.pc)
omit hE in
theorem NA.pi {r:oG}(h:NA r):abh r.pc:=by
 by_cases e:r.ix=[]
 ·rw [h.1 e];exact fun _ _=>trivial
 ·exact (h.2 e).good
theorem ny:∀ (m:Nat) (r:oG),NA r→NA (bK ay E m r)
 | 0,r,h=>h
 | m+1,r,h=>by
  rw [bK];split
  ·rename_i e
   refine ny m _ ⟨fun h=>by simp at h,fun _=>?_⟩
   show yx (r.pc ++ (E r.st).pc)
   rw [h.1 e];exact hE _
  ·rename_i e
   refine ny m _ ⟨fun h=>by simp at h,fun _=>⟨fun x d=>?_,(h.2 e).start.append _⟩⟩;exact bH _ _ x ((h.2 e).good _ (jR (by decide) _ x)) (bM (by decide) aX ((hE _).on (bT ay _).1 x d))
omit hE in
theorem Kj:∀ (m:Nat) (r:oG),r.ix ≠ []→(bK ay E m r).ix ≠ []
 | 0,r,h=>h
 | m+1,r,h=>by
  rw [bK];split <;> exact Kj m _ (by simp)
omit hE in
theorem Qy (m:Nat)(r:oG):(bK ay E (m+1) r).ix ≠ []:=by
 rw [bK];split <;> exact Kj ay m _ (by simp)
theorem KV {x:Bs}(e:vX 1 x=true)(d:∃ c f,x=c :: f∧c ≠ 61∧c ≠ 46)(s:bB):yx (vI ay E x s).pc:=by
 have h:=ny ay hE (s.nx % 4) ⟨[],[],s.tl⟩ ⟨fun _=>rfl,fun h=>absurd rfl h⟩
 refine⟨fun r g=>bn aX (bS e (jR (by decide) _ r)) (bM (by decide) aX (bH _ _ r (h.pi _ (mI ay _ _ _ _ r).np) (bM (by decide) (bT ay _).1 trivial))),_,_,_,rfl,d⟩
theorem Gz {x:Bs}(g:vX 1 x=true)(f:∃ c d,x=c :: d∧c ≠ 61∧c ≠ 46)(s:bB):yx (qz ay E x s).pc:=by
 refine⟨fun r e=>bM (by decide) aX (bH _ _ r ((hE s).good _ (jR (by decide) _ r)) (bM (by decide) aX (bn (bT ay _).1 ?_ (bn aX (bS g (by simpa [aN] using e)) trivial)))),DK ⟨by decide,by decide⟩ _⟩
 obtain⟨c,d,rfl,h1,h2⟩:=f;exact BN 46 46 (by decide) c _ h2
theorem GJ (s:bB):yx (qC ay E s).pc :=
 ⟨fun r d=>bM (by decide) aX (bH _ _ r ((hE s).good _ (jR (by decide) _ r)) (bM (by decide) aX (bM (by decide) aX (bH _ _ r ((hE _).good _ (mI ay _ _ _ _ r).np) (bM (by decide) (bT ay _).1 trivial))))),DK ⟨by decide,by decide⟩ _⟩
theorem Gv (s:bB):yx (qc ay E s).pc:=by
 have h:=ny ay hE (1+s.nx % 4) ⟨[],[],s.tl⟩ ⟨fun _=>rfl,fun h=>absurd rfl h⟩;have d:(bK ay E (1+s.nx % 4) ⟨[],[],s.tl⟩).ix ≠ []:=by rw [Nat.add_comm];exact Qy ay _ _
 exact⟨fun r e=>bM (by decide) aX (bH _ _ r ((h.2 d).on (bT ay _).1 _ (jR (by decide) _ r)) (bM (by decide) aX trivial)),DK ⟨by decide,by decide⟩ _⟩
theorem CP:∀ (m:Nat) (r:oG),NA r→NA (dQ ay E m r)
 | 0,r,h=>h
 | m+1,r,h=>by
  rw [dQ];obtain⟨c,i,g,h1,h2⟩:=jS (if r.ix=[] then r.st else aO ay r.st).nx
  have d:yx (([],1,aY (if r.ix=[] then r.st else aO ay r.st).nx) :: bR [58] :: (E (if r.ix=[] then r.st else aO ay r.st).tl).pc) :=
   ⟨fun x f=>bn aX (bS (oq _) (jR (by decide) _ x)) (bM (by decide) aX ((hE _).good x f)),_,_,_,rfl,c,i,g,h1,h2⟩
  refine CP m _ ⟨fun h=>by simp at h,fun _=>?_⟩
  show yx (r.pc ++ _)
  by_cases e:r.ix=[]
  ·rw [if_pos e] at d ⊢;rw [h.1 e];simp only [e,if_true] at d ⊢;exact d
  ·rw [if_neg e] at d ⊢;simp only [e,if_false] at d ⊢
   exact⟨fun x f=>bH _ _ x ((h.2 e).good _ (mI ay _ _ _ _ x).np) (bM (by decide) (bT ay _).1 (d.good x f)),(h.2 e).start.append _⟩
theorem RD {x:Bs}(e:vX 1 x=true)(d:∃ c f,x=c :: f∧c ≠ 61∧c ≠ 46)(b:Nat)(s:bB):yx (BI ay E x b s).pc:=by
 have h:=CP ay hE (1+b % 3) ⟨[],[],s⟩ ⟨fun _=>rfl,fun h=>absurd rfl h⟩;exact⟨fun r g=>bn aX (bS e (jR (by decide) _ r)) (bM (by decide) aX (bH _ _ r (h.pi _ (mI ay _ _ _ _ r).np) (bM (by decide) (bT ay _).1 trivial))),_,_,_,rfl,d⟩
theorem Uw (b:Nat)(s:bB):yx (Ba ay E b s).pc:=by
 unfold Ba;split
 ·exact QW ay hE b s
 ·exact Oh ay hE b s
theorem Lg (b:Nat)(s:bB):yx (dZ ay E b s).pc:=by
 unfold dZ;simp only
 have d:=oq s.nx;have e:=jS s.nx;split
 ·exact TR ay hE _
 split
 ·exact Qx ay hE d _
 split
 ·exact KV ay hE d e _
 split
 ·exact Gz ay hE d e _
 split
 ·exact GJ ay hE _
 split
 ·exact Gv ay hE _
 ·exact RD ay hE d e _ _
end
theorem gX (ay:Bool):∀ (d:Nat) (s:bB),yx (bA ay d s).pc
 | 0,s=>Cv _ (Nat.mod_lt _ (by decide)) _
 | d+1,s=>by
  rw [bA];split
  ·rename_i h;exact Cv _ h _
  split
  ·exact Uw ay (gX ay d) _ _
  ·exact Lg ay (gX ay d) _ _
theorem pQ (ay:Bool):∀ (d:Nat) (s:bB),yx (bF ay d s).pc
 | 0,s=>by
  rw [bF];obtain⟨c,g,f,h1,h2⟩:=jS s.nx;split
  ·exact⟨fun r e=>bn aX (bS (by decide) (by simpa [aN] using e)) trivial,_,_,_,rfl,_,_,rfl,by decide,by decide⟩
  split
  ·exact⟨fun r e=>bn aX (bS (by decide) (by simpa [aN] using e)) trivial,_,_,_,rfl,_,_,rfl,by decide,by decide⟩
  ·exact⟨fun r e=>bn aX (bS (oq _) (by simpa [aN] using e)) trivial,_,_,_,rfl,c,g,f,h1,h2⟩
 | d+1,s=>by
  rw [bF];obtain⟨c,g,f,h1,h2⟩:=jS s.nx;split
  ·exact⟨fun r e=>bn aX (bS (by decide) (by simpa [aN] using e)) trivial,_,_,_,rfl,_,_,rfl,by decide,by decide⟩
  split
  ·exact⟨fun r e=>bn aX (bS (by decide) (by simpa [aN] using e)) trivial,_,_,_,rfl,_,_,rfl,by decide,by decide⟩
  split
  ·exact⟨fun r e=>bn aX (bS (oq _) (by simpa [aN] using e)) trivial,_,_,_,rfl,c,g,f,h1,h2⟩
  ·have h:=pQ ay d s.tl;exact⟨fun r e=>bM (by decide) aX (bH _ _ r (h.good _ (mI ay _ _ _ _ r).np) (bM (by decide) (bT ay _).1 (bn aX (C_ (tu _ (by omega)) (jR (by decide) _ r)) (bM (by decide) aX trivial)))),DK ⟨by decide,by decide⟩ _⟩
theorem tX (ay:Bool):∀ (m:Nat) (r:oG),NA r→NA (bE ay m r)
 | 0,r,h=>h
 | m+1,r,h=>by
  rw [bE];refine tX ay m _ ⟨fun h=>by simp at h,fun _=>?_⟩
  show yx (r.pc ++ _)
  by_cases e:r.ix=[]
  ·obtain⟨c,i,g,h1,h2⟩:=jS r.st.nx;simp only [e,if_true];rw [h.1 e];have d:=pQ ay 2 r.st.tl;exact⟨fun x f=>bn aX (bS (oq _) (jR (by decide) _ x)) (bM (by decide) aX (d.on (bT ay _).1 x f)),_,_,_,rfl,c,i,g,h1,h2⟩
  ·simp only [e,if_false];have d:=pQ ay 2 (aO ay r.st).tl;exact⟨fun x f=>bH _ _ x ((h.2 e).good _ (jR (by decide) _ x)) (bM (by decide) aX (bn (bT ay _).1 (bS (oq _) (jR (by decide) _ x)) (bM (by decide) aX (d.on (bT ay _).1 x f)))),(h.2 e).start.append _⟩
theorem li0 (s:bB):NA ⟨[],[],s⟩:=⟨fun _=>rfl,fun h=>absurd rfl h⟩
theorem AV (r:Bs):Ob (32 :: r):=⟨32,r,rfl,.inl rfl⟩
theorem sH {k:Nat}{c:UInt8}{t:Bs}(h:c ≠ 61∧c ≠ 46)(J:bN):D_ (([],k,c :: t) :: J):=⟨_,_,_,rfl,c,t,rfl,h⟩
theorem Us {I:bN}(h:D_ I)(r:Bs):KR (aN (bN.on [32] I) ++ r):=by rw [h.text];exact (AV _).np
theorem GK (ay:Bool)(s:bB):(∀ r,Ob r→kS (cO ay s).pc r)∧D_ (cO ay s).pc:=by
 unfold cO;simp only
 have i:=oq s.tl.nx;obtain⟨U,V,Q,N,P⟩:=jS s.tl.nx;split
 ·
  refine⟨fun r d=>?_,sH ⟨by decide,by decide⟩ _⟩
  obtain⟨y,A⟩:=wz (((s.tl.tl.nx % 30:Nat):Int) - 15) (by omega) (by omega);obtain⟨C,D⟩:=wz ((((s.tl.tl.nx % 30:Nat):Int) - 15)+(((bX (((s.tl.tl.nx % 30:Nat):Int) - 15) s.tl.tl.tl).st.nx % 12:Nat):Int)) (by omega) (by omega)
  exact bn aX (bS (by decide) (AV _).np) (bn jG (bS i (jR (by decide) _ r)) (bM (by decide) aX (bH _ _ r ((yx.mk y A).on (bT ay _).1 _ (mI ay _ _ _ _ r).np)
   (bn (bT ay _).1 (Bg 46 46 (by decide) _) ((yx.mk C D).on (bT ay _).1 r d.np)))))
 split
 ·
  refine⟨fun r d=>?_,sH ⟨by decide,by decide⟩ _⟩
  have h:=tX ay (1+s.tl.tl.nx % 6) ⟨[],[],s.tl.tl.tl⟩ (li0 _);exact bn aX (bS (by decide) (AV _).np) (bn jG (bS i (jR (by decide) _ r)) (bn aX (BN 61 61 (by decide) 123 _ (by decide)) (bM (by decide) aX (bH _ _ r (h.pi _ (jR (by decide) _ r)) (bM (by decide) aX trivial)))))
 split
 ·
  refine⟨fun r d=>?_,sH ⟨by decide,by decide⟩ _⟩
  have h:=tX ay (s.tl.tl.nx % 5) ⟨[],[],s.tl.tl.tl⟩ (li0 _);have H:=pQ ay 2 (bE ay (s.tl.tl.nx % 5) ⟨[],[],s.tl.tl.tl⟩).st;unfold zS;simp only
  generalize bE ay (s.tl.tl.nx % 5) ⟨[],[],s.tl.tl.tl⟩=R at *
  generalize bF ay 2 R.st=K at *
  obtain⟨n,v⟩:∃ n,n=mV K.st:=⟨_,rfl⟩;have t:n < 140:=by rw [v];unfold mV;split <;> omega
  rw [← v]
  generalize J:(if 0 < n then aO ay K.st.tl else K.st.tl)=w
  have g:=gX ay 4 w
  generalize bA ay 4 w=B at *
  have f:kS ((bG ay (aO ay (aO ay B.st)),4,[61]) :: B.pc) r:=bn (bT ay _).1 (by have:=V3 (x:=61) (z:=61) (by decide) g.start [] r;rwa [List.append_nil] at this) (g.good r d.np)
  have M:kS ((if 0 < n then [(([32]:Bs),3,([117,112,116,111]:Bs)),(bG ay K.st.tl,2,Go.Lib.itoa (n:Int))] else []) ++ (bG ay (aO ay (aO ay B.st)),4,[61]) :: B.pc) r:=by
   split
   ·exact bn jG (bS (by decide) (mI ay _ _ _ _ r).np) (bn (bT ay _).1 (C_ (tu n t) (mI ay _ _ _ _ r).np) f)
   ·exact f
  have u:KR (aN ((if 0 < n then [(([32]:Bs),3,([117,112,116,111]:Bs)),(bG ay K.st.tl,2,Go.Lib.itoa (n:Int))] else []) ++ (bG ay (aO ay (aO ay B.st)),4,[61]) :: B.pc) ++ r):=by
   split
   ·exact (AV _).np
   ·exact (mI ay _ _ _ _ r).np
  exact bn aX (bS (by decide) (mI ay _ _ _ _ r).np) (bn (bT ay _).1 (bS i (jR (by decide) _ r)) (bM (by decide) aX (bH _ _ r (h.pi _ (jR (by decide) _ r)) (bM (by decide) aX
   (bM (by decide) (bT ay _).1 (bH _ _ r (H.good _ u) M))))))
 split
 ·
  refine⟨fun r d=>?_,sH ⟨by decide,by decide⟩ _⟩
  have g:=gX ay 4 s.tl.tl
  have G:AA 4 [61] (aN (bN.on (bG ay (bA ay 4 s.tl.tl).st) (bA ay 4 s.tl.tl).pc) ++ r):=by
   obtain⟨c,S,e,F⟩:=CG g.start ay (bA ay 4 s.tl.tl).st r;rw [e];exact BN 61 61 (by decide) c S (by rcases F with rfl | rfl <;> decide)
  exact bn aX (bS (by decide) (AV _).np) (bn jG (bS i (jR (by decide) _ r)) (bn aX G (g.on (bT ay _).1 r d.np)))
 split
 ·
  refine⟨fun r d=>?_,sH ⟨by decide,by decide⟩ _⟩
  have g:=gX ay 4 s.tl.tl;exact bn aX (bS (by decide) (AV _).np) (bn jG (bS i (mI ay _ _ _ _ r).np) (bM (by decide) (bT ay _).1 (g.good r d.np)))
 split
 ·
  exact⟨fun r d=>bn aX (bS (by decide) (mI ay _ _ _ _ r).np) (bn (bT ay _).1 (bS i (by simpa [aN] using d.np)) trivial),sH ⟨by decide,by decide⟩ _⟩
 ·
  refine⟨fun r d=>?_,sH ⟨by decide,by decide⟩ _⟩
  unfold o8;simp only
  have I:vX 3 (sg iB (1+s.tl.tl.nx % 8))=true:=by
   have:∀ q:Fin 8,vX 3 (sg iB (1+q.val))=true:=by decide +kernel
   exact this ⟨s.tl.tl.nx % 8,by omega⟩
  generalize 1+s.tl.tl.nx % 8=q at *
  generalize T:(if q=7 then 0 else if q=8 then 1+s.tl.tl.tl.nx % 4 else 1)=m
  generalize (if q=8 then s.tl.tl.tl.tl else s.tl.tl.tl)=s3
  have j:=ny ay (gX ay 3) m ⟨[],[],s3⟩ (li0 _)
  generalize bK ay (bA ay 3) m ⟨[],[],s3⟩=L at *
  have h2:kS (bN.on [32] L.pc) r∧KR (aN (bN.on [32] L.pc) ++ r):=by
   by_cases e:L.ix=[]
   ·rw [j.1 e];exact⟨trivial,d.np⟩
   ·exact⟨(j.2 e).on jG r d.np,Us (j.2 e).start r⟩
  exact bn aX (bS (by decide) (mI ay _ _ _ _ r).np) (bn (bT ay _).1 (bS I h2.2) h2.1)
theorem BU (ay:Bool)(s:bB):(∀ r,kS (dH ay s).pc r)∧D_ (dH ay s).pc:=by
 obtain⟨h1,h2⟩:=GK ay s
 have d:sV (dY s)∧(dY s=[]∨dY s=[32]):=by
  unfold dY;split
  ·exact⟨jG,.inr rfl⟩
  ·exact⟨aX,.inl rfl⟩
 refine⟨fun r=>bH _ _ r (h1 _ ?_) (bM (by decide) (d.1.append (bT ay _).1) trivial),h2.append _⟩
 show Ob (((dY s ++ bG ay _) ++ ([59] ++ [])) ++ r)
 rw [List.append_assoc,List.append_assoc];rcases d.2 with e | e
 ·rw [e];exact zZ ay _ _
 ·rw [e];exact AV _
def GIv (r:oG):Prop:=(∀ x,kS r.pc x)∧(r.ix=[]→r.pc=[])
theorem BP (ay:Bool):∀ (m:Nat) (r:oG),GIv r→GIv (jH ay m r)
 | 0,r,h=>h
 | m+1,r,h=>by
  rw [jH];split
  ·exact h
  ·obtain⟨h1,h2⟩:=BU ay r.st;refine BP ay m _ ⟨fun x=>?_,fun h=>by simp at h⟩
   show kS (r.pc ++ _) x
   by_cases e:r.ix=[]
   ·rw [if_pos e,h.2 e];exact h1 x
   ·rw [if_neg e];refine bH _ _ x (h.1 _) ?_;obtain⟨k,t,R,f,_⟩:=h2;have d:=h1 x;rw [f] at d ⊢
    exact⟨by show sV ([10] ++ []);exact CX,d.2.1,d.2.2⟩
theorem wh (ay:Bool)(b:Bs)(r:Bs):kS (grown ay b).pc r:=(BP ay 12 ⟨[],[],⟨b,[]⟩⟩ ⟨fun _=>trivial,fun _=>rfl⟩).1 r
theorem KC:∀ (I:bN) (E:Bs),kS I E→I.length≤((aN I).filter fun b=>!(b == 32) && !(b == 10)).length
 | [],_,_=>aaL _
 | (g,k,t) :: I,E,⟨_,h2,h3⟩=>by
  have j:=KC I E h3
  show I.length+1≤((g ++ (t ++ aN I)).filter _).length
  rw [List.filter_append,List.filter_append,aaO,aaO]
  have:1≤(t.filter fun b=>!(b == 32) && !(b == 10)).length:=by
   have i:=h2.pos;have f:=h2.skip
   cases t with
   | nil=>simp at i
   | cons b t =>
    have d:pR b=false:=by
     cases h:pR b
     ·rfl
     ·exfalso
      have f:gK false (b :: (t ++ (aN I ++ E)))=0:=f;rw [gK,if_pos h] at f;omega
    have e:(!(b == 32) && !(b == 10))=true:=by
     unfold pR at d;simp only [Bool.or_eq_false_iff] at d;rw [d.1,d.2];rfl
    rw [List.filter_cons_of_pos (p:=fun b=>!(b == 32) && !(b == 10)) e];simp
  omega
theorem GD (ay:Bool)(b:Bs)(h:q9 (bZ ay b)=true):Mist.read (bZ ay b)=(fO 0 (grown ay b).pc,0,0)∧(grown ay b).pc.length≤800:=by
 unfold q9 at h
 rw [aaS,decide_eq_true_eq,decide_eq_true_eq] at h
 obtain⟨h1,h2⟩:=h;have f:=KC (grown ay b).pc [] (wh ay b [])
 have d:(grown ay b).pc.length≤800:=by
  unfold bZ at h2
  rw [List.filter_append,aaO] at h2
  omega
 refine⟨?_,d⟩
 unfold bZ at h1 ⊢
 split
 ·rename_i e
  rw [if_pos e] at h1
  exact vT _ [] (wh ay b _) rfl rfl d h1
 ·rename_i e
  rw [if_neg e] at h1
  exact vT _ [10] (wh ay b _) (by decide) (by decide) d h1
end Mist
namespace Mist
def fI (r r':Option j6):Prop:=∀ x,r=some x→r'=some x
theorem fI.refl (r:Option j6):fI r r:=fun _ h=>h
theorem fI.none (r:Option j6):fI none r:=fun _ h=>by cases h
theorem fI.thn {r g:Option j6}{f d:List Int→Nat→List Nd→Option j6}(h:fI r g)(i:∀ a k ns,fI (f a k ns) (d a k ns)):fI (Mist.thn r f) (Mist.thn g d):=by
 intro x e
 cases r with
 | none=>cases e
 | some y =>
  rw [h y rfl]
  cases y with
  | bad k=>exact e
  | ok a k ns=>exact i a k ns x e
theorem fI.ite {c:Prop}[Decidable c]{a d b e:Option j6}(h1:fI a d)(h2:fI b e):fI (if c then a else b) (if c then d else e):=by
 split
 ·exact h1
 ·exact h2
section
variable {l:List Tok} {en:Int}
theorem fI.need {s:Bs}{k:Nat}{f d:Option j6}(h:fI f d):fI (Mist.need l s k f) (Mist.need l s k d):=by
 unfold Mist.need;exact fI.ite h (fI.refl _)
theorem fI.bI {c k:Nat}{f d:Option j6}(h:fI f d):fI (Mist.bI l c k f) (Mist.bI l c k d):=by
 unfold Mist.bI;exact fI.ite h (fI.refl _)
theorem RG:∀ (n:Nat) (j:Job) (k:Nat) (ns:List Nd),fI (run l en n j k ns) (run l en (n+1) j k ns)
 | 0,j,k,ns=>by rw [run];exact fI.none _
 | n+1,j,k,ns=>by
  have d:=RG n
  match j with
  | .expr=>rw [run,run];repeat (first | exact d _ _ _ | exact fI.refl _ | refine fI.thn ?_ (fun _ _ _=>?_) | refine fI.need ?_ | refine fI.bI ?_ | refine fI.ite ?_ ?_)
  | .lv .not=>rw [run,run];repeat (first | exact d _ _ _ | exact fI.refl _ | refine fI.thn ?_ (fun _ _ _=>?_) | refine fI.need ?_ | refine fI.bI ?_ | refine fI.ite ?_ ?_)
  | .lv .unary=>rw [run,run];repeat (first | exact d _ _ _ | exact fI.refl _ | refine fI.thn ?_ (fun _ _ _=>?_) | refine fI.need ?_ | refine fI.bI ?_ | refine fI.ite ?_ ?_)
  | .lv .or=>rw [run,run] <;> first|(intro e;cases e;done)|(repeat (first | exact d _ _ _ | exact fI.refl _ | refine fI.thn ?_ (fun _ _ _=>?_)))
  | .lv .and=>rw [run,run] <;> first|(intro e;cases e;done)|(repeat (first | exact d _ _ _ | exact fI.refl _ | refine fI.thn ?_ (fun _ _ _=>?_)))
  | .lv .cmp=>rw [run,run] <;> first|(intro e;cases e;done)|(repeat (first | exact d _ _ _ | exact fI.refl _ | refine fI.thn ?_ (fun _ _ _=>?_)))
  | .lv .sum=>rw [run,run] <;> first|(intro e;cases e;done)|(repeat (first | exact d _ _ _ | exact fI.refl _ | refine fI.thn ?_ (fun _ _ _=>?_)))
  | .lv .term=>rw [run,run] <;> first|(intro e;cases e;done)|(repeat (first | exact d _ _ _ | exact fI.refl _ | refine fI.thn ?_ (fun _ _ _=>?_)))
  | .tail v a=>rw [run,run];repeat (first | exact d _ _ _ | exact fI.refl _ | refine fI.thn ?_ (fun _ _ _=>?_) | refine fI.need ?_ | refine fI.bI ?_ | refine fI.ite ?_ ?_)
  | .post=>rw [run,run];repeat (first | exact d _ _ _ | exact fI.refl _ | refine fI.thn ?_ (fun _ _ _=>?_) | refine fI.need ?_ | refine fI.bI ?_ | refine fI.ite ?_ ?_)
  | .iq a=>rw [run,run];repeat (first | exact d _ _ _ | exact fI.refl _ | refine fI.thn ?_ (fun _ _ _=>?_) | refine fI.need ?_ | refine fI.bI ?_ | refine fI.ite ?_ ?_)
  | .atom=>rw [run,run];repeat (first | exact d _ _ _ | exact fI.refl _ | refine fI.thn ?_ (fun _ _ _=>?_) | refine fI.need ?_ | refine fI.bI ?_ | refine fI.ite ?_ ?_)
  | .put=>rw [run,run];repeat (first | exact d _ _ _ | exact fI.refl _ | refine fI.thn ?_ (fun _ _ _=>?_) | refine fI.need ?_ | refine fI.bI ?_ | refine fI.ite ?_ ?_)
  | .param=>rw [run,run];repeat (first | exact d _ _ _ | exact fI.refl _ | refine fI.thn ?_ (fun _ _ _=>?_) | refine fI.need ?_ | refine fI.bI ?_ | refine fI.ite ?_ ?_)
  | .typ=>rw [run,run];repeat (first | exact d _ _ _ | exact fI.refl _ | refine fI.thn ?_ (fun _ _ _=>?_) | refine fI.need ?_ | refine fI.bI ?_ | refine fI.ite ?_ ?_)
  | .list e=>rw [run,run];repeat (first | exact d _ _ _ | exact fI.refl _ | refine fI.thn ?_ (fun _ _ _=>?_) | refine fI.need ?_ | refine fI.bI ?_ | refine fI.ite ?_ ?_)
  | .eu e f=>rw [run,run];repeat (first | exact d _ _ _ | exact fI.refl _ | refine fI.thn ?_ (fun _ _ _=>?_) | refine fI.need ?_ | refine fI.bI ?_ | refine fI.ite ?_ ?_)
theorem eF {n m:Nat}{j:Job}{k:Nat}{ns:List Nd}{x:j6}(h:run l en n j k ns=some x)(d:n≤m):run l en m j k ns=some x:=by
 induction d with
 | refl=>exact h
 | step _ e=>exact RG _ _ _ _ _ e
end
def Runs (l:List Tok)(en:Int)(j:Job)(k:Nat)(ns:List Nd)(a:List Int)(k':Nat)(ns':List Nd):Prop:=∃ n,run l en n j k ns=some (.ok a k' ns')
section
variable {l:List Tok} {en:Int} {k k1 k2 k3:Nat} {ns aJ fF uK:List Nd} {a b c:Int} {us:List Int}
theorem RZ (h:(tg l k).kind=2):Runs l en .atom k ns [(ns.length:Int)] (k+1) (ns ++ [⟨1,[],numOf (tx l k),[],pl l en k⟩]) :=
 ⟨1,by rw [run,if_pos h];rfl⟩
theorem Nc (h0:(tg l k).kind=3)(h:tx l k=[116,114,117,101]):Runs l en .atom k ns [(ns.length:Int)] (k+1) (ns ++ [⟨2,[],1,[],pl l en k⟩]) :=
 ⟨1,by rw [run,if_neg (by rw [h0];decide),if_pos h];rfl⟩
theorem Iq (h0:(tg l k).kind=3)(h:tx l k=[102,97,108,115,101]):Runs l en .atom k ns [(ns.length:Int)] (k+1) (ns ++ [⟨2,[],0,[],pl l en k⟩]) :=
 ⟨1,by rw [run,if_neg (by rw [h0];decide),if_neg (by rw [h];decide),if_pos h];rfl⟩
theorem sD (h0:(tg l k).kind=4)(h:tx l k=[40])(d:Runs l en .expr (k+1) ns [a] k1 aJ)(h1:tx l k1=[41]):Runs l en .atom k ns [a] (k1+1) aJ:=by
 obtain⟨n,e⟩:=d
 exact⟨n+1,by
  rw [run,if_neg (by rw [h0];decide),if_neg (by rw [h];decide),if_neg (by rw [h];decide),if_pos h,e]
  show need l [41] k1 _=_
  rw [need,if_pos h1];rfl⟩
theorem Ik (h0:(tg l k).kind=4)(h:tx l k=[91])(d:Runs l en (.list .expr) (k+1) ns us k1 aJ)(h1:tx l k1=[93]):Runs l en .atom k ns [(aJ.length:Int)] (k1+1) (aJ ++ [⟨26,[],0,us,pl l en k⟩]):=by
 obtain⟨n,e⟩:=d
 exact⟨n+1,by
  rw [run,if_neg (by rw [h0];decide),if_neg (by rw [h];decide),if_neg (by rw [h];decide),if_neg (by rw [h];decide),if_pos h,e]
  show need l [93] k1 _=_
  rw [need,if_pos h1];rfl⟩
structure Named (l:List Tok) (k:Nat):Prop where
 kind:(tg l k).kind=1
 ne:tx l k ≠ [116,114,117,101]∧tx l k ≠ [102,97,108,115,101]∧tx l k ≠ [40]∧tx l k ≠ [91]
theorem M9 (h:Named l k)(h1:tx l (k+1) ≠ [40])(h2:tx l (k+1) ≠ [123]):Runs l en .atom k ns [(ns.length:Int)] (k+1) (ns ++ [⟨3,tx l k,0,[],pl l en k⟩]) :=
 ⟨1,by
  rw [run,if_neg (by rw [h.kind];decide),if_neg h.ne.1,if_neg h.ne.2.1,if_neg h.ne.2.2.1,if_neg h.ne.2.2.2]
  show bI l 1 k _=_
  unfold bI;rw [if_pos h.kind,if_neg h1,if_neg h2];rfl⟩
theorem Il (h:Named l k)(h1:tx l (k+1)=[40])(h2:tx l (k+2)=[41]):Runs l en .atom k ns [(ns.length:Int)] (k+3) (ns ++ [⟨21,tx l k,0,[],pl l en k⟩]) :=
 ⟨1,by
  rw [run,if_neg (by rw [h.kind];decide),if_neg h.ne.1,if_neg h.ne.2.1,if_neg h.ne.2.2.1,if_neg h.ne.2.2.2]
  show bI l 1 k _=_
  unfold bI;rw [if_pos h.kind,if_pos h1,if_pos h2];rfl⟩
theorem M8 (h:Named l k)(h1:tx l (k+1)=[40])(h2:tx l (k+2) ≠ [41])(d:Runs l en (.list .expr) (k+2) ns us k1 aJ)(h3:tx l k1=[41]):Runs l en .atom k ns [(aJ.length:Int)] (k1+1) (aJ ++ [⟨21,tx l k,0,us,pl l en k⟩]):=by
 obtain⟨n,e⟩:=d
 exact⟨n+1,by
  rw [run,if_neg (by rw [h.kind];decide),if_neg h.ne.1,if_neg h.ne.2.1,if_neg h.ne.2.2.1,if_neg h.ne.2.2.2]
  show bI l 1 k _=_
  unfold bI;rw [if_pos h.kind,if_pos h1,if_neg h2,e]
  show need l [41] k1 _=_
  rw [need,if_pos h3];rfl⟩
theorem R6 (h:Named l k)(h1:tx l (k+1)=[123])(d:Runs l en (.list .put) (k+2) ns us k1 aJ)(h3:tx l k1=[125]):Runs l en .atom k ns [(aJ.length:Int)] (k1+1) (aJ ++ [⟨24,tx l k,0,us,pl l en k⟩]):=by
 obtain⟨n,e⟩:=d
 exact⟨n+1,by
  rw [run,if_neg (by rw [h.kind];decide),if_neg h.ne.1,if_neg h.ne.2.1,if_neg h.ne.2.2.1,if_neg h.ne.2.2.2]
  show bI l 1 k _=_
  unfold bI;rw [if_pos h.kind,if_neg (by rw [h1];decide),if_pos h1,e]
  show need l [125] k1 _=_
  rw [need,if_pos h3];rfl⟩
theorem yT (h:Runs l en .atom k ns [a] k1 aJ)(h2:Runs l en (.iq a) k1 aJ [b] k2 fF):Runs l en .post k ns [b] k2 fF:=by
 obtain⟨n,e⟩:=h;obtain⟨m,d⟩:=h2
 exact⟨max n m+1,by
  rw [run,eF e (Nat.le_max_left n m)]
  show run l en (max n m) (.iq a) k1 aJ=_
  exact eF d (Nat.le_max_right n m)⟩
theorem yV (h1:tx l k ≠ [46])(h2:tx l k ≠ [91]):Runs l en (.iq a) k ns [a] k ns:=⟨1,by rw [run,if_neg h1,if_neg h2]⟩
theorem Iu (h1:tx l k=[46])(h2:(tg l (k+1)).kind=1)(h3:Runs l en (.iq (ns.length:Int)) (k+2) (ns ++ [⟨22,tx l (k+1),0,[a],pl l en k⟩]) [b] k2 fF):Runs l en (.iq a) k ns [b] k2 fF:=by
 obtain⟨n,d⟩:=h3
 exact⟨n+1,by
  rw [run,if_pos h1]
  show bI l 1 (k+1) _=_
  unfold bI;rw [if_pos h2];exact d⟩
theorem IJ (h1:tx l k=[91])(d:Runs l en .expr (k+1) ns [b] k1 aJ)(h2:tx l k1=[93])(h3:Runs l en (.iq (aJ.length:Int)) (k1+1) (aJ ++ [⟨23,[],0,[a,b],pl l en k⟩]) [c] k2 fF):Runs l en (.iq a) k ns [c] k2 fF:=by
 obtain⟨n,f⟩:=d;obtain⟨m,e⟩:=h3
 exact⟨max n m+1,by
  rw [run,if_neg (by rw [h1];decide),if_pos h1,eF f (Nat.le_max_left n m)]
  show need l [93] k1 _=_
  rw [need,if_pos h2];exact eF e (Nat.le_max_right n m)⟩
theorem yQ {e:El}(h:Runs l en e.job k ns [a] k1 aJ)(h2:Runs l en (.eu e [a]) k1 aJ us k2 fF):Runs l en (.list e) k ns us k2 fF:=by
 obtain⟨n,f⟩:=h;obtain⟨m,d⟩:=h2
 exact⟨max n m+1,by
  rw [run,eF f (Nat.le_max_left n m)];exact eF d (Nat.le_max_right n m)⟩
theorem wC {e:El}{d:List Int}(h1:tx l k ≠ [44]):Runs l en (.eu e d) k ns d k ns:=⟨1,by rw [run,if_neg h1]⟩
theorem wD {e:El}{d:List Int}(h1:tx l k=[44])(h:Runs l en e.job (k+1) ns [a] k1 aJ)(h2:Runs l en (.eu e (d ++ [a])) k1 aJ us k2 fF):Runs l en (.eu e d) k ns us k2 fF:=by
 obtain⟨n,g⟩:=h;obtain⟨m,f⟩:=h2
 exact⟨max n m+1,by
  rw [run,if_pos h1,eF g (Nat.le_max_left n m)];exact eF f (Nat.le_max_right n m)⟩
theorem pK (h0:tx l k ≠ [45])(h:Runs l en .post k ns [a] k1 aJ):Runs l en (.lv .unary) k ns [a] k1 aJ:=by
 obtain⟨n,d⟩:=h;exact⟨n+1,by rw [run,if_neg h0];exact d⟩
theorem RN (h0:tx l k=[45])(h:Runs l en (.lv .unary) (k+1) ns [a] k1 aJ):Runs l en (.lv .unary) k ns [(aJ.length:Int)] k1 (aJ ++ [⟨4,[],0,[a],pl l en k⟩]):=by
 obtain⟨n,d⟩:=h;exact⟨n+1,by rw [run,if_pos h0,d];rfl⟩
theorem nV (h0:tx l k ≠ [110,111,116])(h:Runs l en (.lv .cmp) k ns [a] k1 aJ):Runs l en (.lv .not) k ns [a] k1 aJ:=by
 obtain⟨n,d⟩:=h;exact⟨n+1,by rw [run,if_neg h0];exact d⟩
theorem RP (h0:tx l k=[110,111,116])(h:Runs l en (.lv .not) (k+1) ns [a] k1 aJ):Runs l en (.lv .not) k ns [(aJ.length:Int)] k1 (aJ ++ [⟨5,[],0,[a],pl l en k⟩]):=by
 obtain⟨n,d⟩:=h;exact⟨n+1,by rw [run,if_pos h0,d];rfl⟩
theorem nZ {v:Lv}(hv:v ≠ .not∧v ≠ .unary)(h:Runs l en (.lv v.below) k ns [a] k1 aJ)(h2:Runs l en (.tail v a) k1 aJ [b] k2 fF):Runs l en (.lv v) k ns [b] k2 fF:=by
 obtain⟨n,f⟩:=h;obtain⟨m,d⟩:=h2
 refine⟨max n m+1,?_⟩
 have h1:=eF f (Nat.le_max_left n m);have h2:=eF d (Nat.le_max_right n m)
 cases v with
 | not=>exact absurd rfl hv.1
 | unary=>exact absurd rfl hv.2
 | or=>rw [run] <;> first|(show thn (run l en (max n m) (.lv .and) k ns) _=_;rw [show run l en (max n m) (.lv .and) k ns=_ from h1];exact h2)|(intro e;cases e)
 | and=>rw [run] <;> first|(show thn (run l en (max n m) (.lv .not) k ns) _=_;rw [show run l en (max n m) (.lv .not) k ns=_ from h1];exact h2)|(intro e;cases e)
 | cmp=>rw [run] <;> first|(show thn (run l en (max n m) (.lv .sum) k ns) _=_;rw [show run l en (max n m) (.lv .sum) k ns=_ from h1];exact h2)|(intro e;cases e)
 | sum=>rw [run] <;> first|(show thn (run l en (max n m) (.lv .term) k ns) _=_;rw [show run l en (max n m) (.lv .term) k ns=_ from h1];exact h2)|(intro e;cases e)
 | term=>rw [run] <;> first|(show thn (run l en (max n m) (.lv .unary) k ns) _=_;rw [show run l en (max n m) (.lv .unary) k ns=_ from h1];exact h2)|(intro e;cases e)
theorem pJ {v:Lv}(h:fB v (tx l k)=0):Runs l en (.tail v a) k ns [a] k ns:=⟨1,by rw [run,if_pos h]⟩
theorem qK {v:Lv}(h:fB v (tx l k) ≠ 0)(d:Runs l en (.lv v.below) (k+1) ns [b] k1 aJ)(h2:fB v (tx l k1)=0) :
  Runs l en (.tail v a) k ns [(aJ.length:Int)] k1 (aJ ++ [⟨fB v (tx l k),[],0,[a,b],pl l en k⟩]):=by
 obtain⟨n,e⟩:=d
 refine⟨max n 1+1,?_⟩
 rw [run,if_neg h,eF e (Nat.le_max_left n 1)]
 show (if v=.cmp then some (j6.ok [(aJ.length:Int)] k1 _) else run l en (max n 1) (.tail v (aJ.length:Int)) k1 _)=_
 split
 ·rfl
 ·exact eF (n:=1) (by rw [run,if_pos h2];rfl) (Nat.le_max_right n 1)
theorem qJ (h1:tx l k ≠ [105,102])(h2:tx l k ≠ [108,101,116])(h:Runs l en (.lv .or) k ns [a] k1 aJ):Runs l en .expr k ns [a] k1 aJ:=by
 obtain⟨n,d⟩:=h;exact⟨n+1,by rw [run,if_neg h1,if_neg h2];exact d⟩
theorem Vk (h:tx l k=[105,102])(h1:Runs l en .expr (k+1) ns [a] k1 aJ)(g:tx l k1=[116,104,101,110])(h2:Runs l en .expr (k1+1) aJ [b] k2 fF)(i:tx l k2=[101,108,115,101])(h3:Runs l en .expr (k2+1) fF [c] k3 uK) :
  Runs l en .expr k ns [(uK.length:Int)] k3 (uK ++ [⟨19,[],0,[a,b,c],pl l en k⟩]):=by
 obtain⟨n,e⟩:=h1;obtain⟨m,d⟩:=h2;obtain⟨o,f⟩:=h3
 refine⟨max n (max m o)+1,?_⟩
 rw [run,if_pos h,eF e (by omega)]
 show need l _ k1 (thn (run l en (max n (max m o)) .expr (k1+1) aJ) _)=_
 rw [need,if_pos g,eF d (by omega)]
 show need l _ k2 (thn (run l en (max n (max m o)) .expr (k2+1) fF) _)=_
 rw [need,if_pos i,eF f (by omega)];rfl
theorem RL (h:tx l k=[108,101,116])(e:(tg l (k+1)).kind=1)(d:tx l (k+2)=[61])(h1:Runs l en .expr (k+3) ns [a] k1 aJ)(i:tx l k1=[105,110])(h2:Runs l en .expr (k1+1) aJ [b] k2 fF) :
  Runs l en .expr k ns [(fF.length:Int)] k2 (fF ++ [⟨20,tx l (k+1),0,[a,b],pl l en k⟩]):=by
 obtain⟨n,g⟩:=h1;obtain⟨m,f⟩:=h2
 refine⟨max n m+1,?_⟩
 rw [run,if_neg (by rw [h];decide),if_pos h]
 show ite ((tg l (k+1)).kind=1) _ _=_
 rw [if_pos e]
 show ite (tx l (k+2)=[61]) _ _=_
 rw [if_pos d,eF g (by omega)]
 show need l _ k1 (thn (run l en (max n m) .expr (k1+1) aJ) _)=_
 rw [need,if_pos i,eF f (by omega)];rfl
theorem R5 (d:(tg l k).kind=1)(h1:tx l (k+1)=[58])(h:Runs l en .expr (k+2) ns [a] k1 aJ):Runs l en .put k ns [(aJ.length:Int)] k1 (aJ ++ [⟨25,tx l k,0,[a],pl l en k⟩]):=by
 obtain⟨n,e⟩:=h
 refine⟨n+1,?_⟩
 rw [run]
 show ite ((tg l k).kind=1) _ _=_
 rw [if_pos d]
 show ite (tx l (k+1)=[58]) _ _=_
 rw [if_pos h1,e];rfl
theorem IQ (d:(tg l k).kind=1)(h1:tx l (k+1)=[58])(h:Runs l en .typ (k+2) ns [a] k1 aJ):Runs l en .param k ns [(aJ.length:Int)] k1 (aJ ++ [⟨34,tx l k,0,[a],pl l en k⟩]):=by
 obtain⟨n,e⟩:=h
 refine⟨n+1,?_⟩
 rw [run]
 show ite ((tg l k).kind=1) _ _=_
 rw [if_pos d]
 show ite (tx l (k+1)=[58]) _ _=_
 rw [if_pos h1,e];rfl
theorem RI (h:tx l k=[105,110,116]):Runs l en .typ k ns [(ns.length:Int)] (k+1) (ns ++ [⟨30,[],0,[],pl l en k⟩]):=⟨1,by rw [run,if_pos h];rfl⟩
theorem M7 (h:tx l k=[98,111,111,108]):Runs l en .typ k ns [(ns.length:Int)] (k+1) (ns ++ [⟨31,[],0,[],pl l en k⟩]):=⟨1,by rw [run,if_neg (by rw [h];decide),if_pos h];rfl⟩
theorem IK (d:(tg l k).kind=1)(h1:tx l k ≠ [105,110,116])(h2:tx l k ≠ [98,111,111,108])(h3:tx l k ≠ [91]):Runs l en .typ k ns [(ns.length:Int)] (k+1) (ns ++ [⟨32,tx l k,0,[],pl l en k⟩]) :=
 ⟨1,by
  rw [run,if_neg h1,if_neg h2,if_neg h3]
  show ite ((tg l k).kind=1) _ _=_
  rw [if_pos d];rfl⟩
theorem R8 (h:tx l k=[91])(h1:Runs l en .typ (k+1) ns [a] k1 aJ)(f:tx l k1=[59])(d:(tg l (k1+1)).kind=2)(g:tx l (k1+2)=[93]) :
  Runs l en .typ k ns [(aJ.length:Int)] (k1+3) (aJ ++ [⟨33,[],numOf (tx l (k1+1)),[a],pl l en k⟩]):=by
 obtain⟨n,e⟩:=h1
 refine⟨n+1,?_⟩
 rw [run,if_neg (by rw [h];decide),if_neg (by rw [h];decide),if_pos h,e]
 show need l _ k1 _=_
 rw [need,if_pos f]
 show ite ((tg l (k1+1)).kind=2) _ _=_
 rw [if_pos d]
 show ite (tx l (k1+2)=[93]) _ _=_
 rw [if_pos g];rfl
end
end Mist
namespace Mist
def strip (x:Nd):Nd:=⟨x.kind,x.text,x.n,x.kids,0⟩
def qb (l:List Tok)(p:Nat)(I:bN):Prop:=∀ i g k t,I[i]? = some (g,k,t)→(tg l (p+i)).kind=k∧tx l (p+i)=t
section
variable {l:List Tok} {p:Nat}
theorem qb.left {I J:bN}(h:qb l p (I ++ J)):qb l p I:=fun i g k t e=>h i g k t (by rw [List.getElem?_append_left (aaE.1 e).1];exact e)
theorem qb.right {I J:bN}(h:qb l p (I ++ J)):qb l (p+I.length) J:=fun i g k t e=>by
 have:=h (I.length+i) g k t (by rw [List.getElem?_append_right (by omega),Nat.add_sub_cancel_left];exact e)
 rwa [← Nat.add_assoc] at this
theorem qb.head {g:Bs}{k:Nat}{t:Bs}{I:bN}(h:qb l p ((g,k,t) :: I)):(tg l p).kind=k∧tx l p=t:=h 0 g k t rfl
theorem qb.tail {x:Bs × Nat × Bs}{I:bN}(h:qb l p (x :: I)):qb l (p+1) I:=fun i g k t e=>by
 have:=h (i+1) g k t (by simpa using e)
 rwa [show p+(i+1)=p+1+i by omega] at this
theorem bL (g:Bs)(I:bN):(bN.on g I).length=I.length:=by cases I <;> rfl
theorem qb.on {g:Bs}{I:bN}(h:qb l p (bN.on g I)):qb l p I:=fun i g' k t e=>by
 cases I with
 | nil=>simp at e
 | cons x I =>
  obtain⟨h0,k0,f⟩:=x
  cases i with
  | zero =>
   have e:(h0,k0,f)=(g',k,t):=by simpa using e
   injection e with m d;injection d with d j;subst d;subst j
   exact h 0 _ k0 f rfl
  | succ i=>exact h (i+1) g' k t (by show I[i]? = _;simpa using e)
end
def BK (t:Bs):Prop:=t ≠ [46]∧t ≠ [91]∧t ≠ [40]∧t ≠ [123]
structure lW (t:Bs):Prop where
 x:BK t
 term:fB .term t=0
 sum:fB .sum t=0
 cmp:fB .cmp t=0
 and:fB .and t=0
 or:fB .or t=0
def Sg (t:Bs):Bool:=!(t == [46]) && !(t == [91]) && !(t == [40]) && !(t == [123]) && fB .term t == 0 && fB .sum t == 0 && fB .cmp t == 0 && fB .and t == 0 && fB .or t == 0
theorem Gc {t:Bs}(h:Sg t=true):lW t:=by
 unfold Sg at h
 simp only [aaS,Bool.not_eq_true',aaF,beq_iff_eq] at h
 obtain⟨⟨⟨⟨⟨⟨⟨⟨h1,h2⟩,h3⟩,h4⟩,h5⟩,h6⟩,h7⟩,h8⟩,h9⟩:=h;exact⟨⟨h1,h2,h3,h4⟩,h5,h6,h7,h8,h9⟩
structure Ny (t:Bs):Prop where
 neg:t ≠ [45]
 not:t ≠ [110,111,116]
 if_:t ≠ [105,102]
 yB:t ≠ [108,101,116]
 shut:t ≠ [41]
def hdB (t:Bs):Bool:=!(t == [45]) && !(t == [110,111,116]) && !(t == [105,102]) && !(t == [108,101,116]) && !(t == [41])
theorem A8 {t:Bs}(h:hdB t=true):Ny t:=by
 unfold hdB at h
 simp only [aaS,Bool.not_eq_true',aaF] at h
 obtain⟨⟨⟨⟨h1,h2⟩,h3⟩,h4⟩,h5⟩:=h;exact⟨h1,h2,h3,h4,h5⟩
section
variable {l:List Tok} {en:Int} {k k1:Nat} {ns aJ:List Nd} {a:Int}
theorem sF (h:Runs l en (.lv .unary) k ns [a] k1 aJ)(s:fB .term (tx l k1)=0):Runs l en (.lv .term) k ns [a] k1 aJ:=nZ ⟨by decide,by decide⟩ h (pJ s)
theorem y7 (h:Runs l en (.lv .term) k ns [a] k1 aJ)(s:fB .sum (tx l k1)=0):Runs l en (.lv .sum) k ns [a] k1 aJ:=nZ ⟨by decide,by decide⟩ h (pJ s)
theorem Bq (h:Runs l en (.lv .sum) k ns [a] k1 aJ)(s:fB .cmp (tx l k1)=0):Runs l en (.lv .cmp) k ns [a] k1 aJ:=nZ ⟨by decide,by decide⟩ h (pJ s)
theorem Bp (h:Runs l en (.lv .not) k ns [a] k1 aJ)(s:fB .and (tx l k1)=0):Runs l en (.lv .and) k ns [a] k1 aJ:=nZ ⟨by decide,by decide⟩ h (pJ s)
theorem KQ (h:Runs l en (.lv .and) k ns [a] k1 aJ)(s:fB .or (tx l k1)=0):Runs l en (.lv .or) k ns [a] k1 aJ:=nZ ⟨by decide,by decide⟩ h (pJ s)
theorem QS (hd:Ny (tx l k))(h:Runs l en (.lv .not) k ns [a] k1 aJ)(s:lW (tx l k1)):Runs l en .expr k ns [a] k1 aJ:=qJ hd.if_ hd.yB (KQ (Bp h s.and) s.or)
theorem wG (hd:Ny (tx l k))(h:Runs l en (.lv .cmp) k ns [a] k1 aJ)(s:lW (tx l k1)):Runs l en .expr k ns [a] k1 aJ:=QS hd (nV hd.not h) s
theorem vk (h:Runs l en (.lv .unary) k ns [a] k1 aJ)(s:lW (tx l k1)):Runs l en (.lv .cmp) k ns [a] k1 aJ:=Bq (y7 (sF h s.term) s.sum) s.cmp
theorem CO (hd:Ny (tx l k))(h:Runs l en .post k ns [a] k1 aJ)(s:lW (tx l k1)):Runs l en .expr k ns [a] k1 aJ:=wG hd (vk (pK hd.neg h) s) s
theorem iL (h:Runs l en .atom k ns [a] k1 aJ)(s:BK (tx l k1)):Runs l en .post k ns [a] k1 aJ:=yT h (yV s.1 s.2.1)
end
structure vw (s:bB) (r:j4) (new:List Nd):Prop where
 ns:r.st.ns=s.ns ++ new
 head:∃ g k t R,r.pc=(g,k,t) :: R∧Ny t
 run:∀ (l:List Tok) (en:Int) (p:Nat) (ns:List Nd),qb l p r.pc→ns.length=s.ns.length→BK (tx l (p+r.pc.length))→∃ new',new'.map strip=new∧Runs l en .post p ns [r.ix] (p+r.pc.length) (ns ++ new')
theorem vw.hd {s:bB}{r:j4}{new:List Nd}(h:vw s r new){l:List Tok}{p:Nat}(d:qb l p r.pc):Ny (tx l p):=by
 obtain⟨g,k,t,R,e,f⟩:=h.head;rw [e] at d
 rw [d.head.2];exact f
theorem vw.expr {s:bB}{r:j4}{new:List Nd}(h:vw s r new){l:List Tok}{en:Int}{p:Nat}{ns:List Nd}(e:qb l p r.pc)(g:ns.length=s.ns.length)(f:lW (tx l (p+r.pc.length))) :
  ∃ d,d.map strip=new∧Runs l en .expr p ns [r.ix] (p+r.pc.length) (ns ++ d):=by
 obtain⟨d,h1,h2⟩:=h.run l en p ns e g f.x;exact⟨d,h1,CO (h.hd e) h2 f⟩
def abl (I:bN)(s:bB)(a:Int)(new:List Nd):Prop:=∀ (l:List Tok) (en:Int) (p:Nat) (ns:List Nd),qb l p I→ns.length=s.ns.length→lW (tx l (p+I.length))→∃ new',new'.map strip=new∧Runs l en .expr p ns [a] (p+I.length) (ns ++ new')
theorem oO {t:Bs}(h:t=[41]):lW t:=by rw [h];exact Gc (by decide)
theorem Ag {t:Bs}(h:t=[40]):Ny t:=by rw [h];exact A8 (by decide)
theorem Bc {I:bN}{s:bB}{a:Int}{new:List Nd}(h:abl I s a new){g:Bs}{l:List Tok}{en:Int}{p:Nat}{ns:List Nd}{J:bN}(e:qb l p (bR [40] :: I ++ (g,4,[41]) :: J))(j:ns.length=s.ns.length) :
  ∃ d,d.map strip=new∧Runs l en .atom p ns [a] (p+I.length+2) (ns ++ d):=by
 have h0:=e.head;have h1:qb l (p+1) (I ++ (g,4,[41]) :: J):=e.tail;have h2:=h1.right.head;obtain⟨d,f,i⟩:=h l en (p+1) ns h1.left j (oO h2.2)
 exact⟨d,f,by
  have:=sD h0.1 h0.2 i h2.2
  rwa [show p+1+I.length+1=p+I.length+2 by omega] at this⟩
theorem aF (ay:Bool)(s:bB):(aO ay s).ns=s.ns:=by unfold aO bB.tl;split <;> rfl
theorem bW (ay:Bool)(s:bB):(fK ay s).ns=s.ns:=by
 unfold fK;split
 ·split
  ·rw [aF];rfl
  ·rfl
 ·rfl
theorem Nj (ay:Bool){I:bN}{s i:bB}{a:Int}{new:List Nd}(h:abl I s a new){l:List Tok}{en:Int}{p:Nat}{ns:List Nd}(g:qb l p (fG ay I i))(r:ns.length=s.ns.length)(f:BK (tx l (p+(fG ay I i).length))) :
  ∃ d,d.map strip=new∧Runs l en .post p ns [a] (p+(fG ay I i).length) (ns ++ d):=by
 unfold fG at g f ⊢
 split
 ·rename_i e
  rw [if_pos e] at g f
  have h1:qb l (p+1) (bR [40] :: I ++ (bG ay i.tl,4,[41]) :: [bR [41]]):=g.tail;have h0:=g.head;obtain⟨d,j,m⟩:=Bc h (en:=en) h1 r;have q:p+(bR [40] :: bR [40] :: I ++ [(bG ay i.tl,4,[41]),bR [41]]).length=p+1+I.length+2+1:=by simp;omega
  rw [q] at f ⊢
  have h3:tx l (p+1+I.length+2)=[41]:=by
   have h4:qb l (p+1+1) (I ++ [(bG ay i.tl,4,[41]),bR [41]]):=h1.tail
   have:=h4.right.tail.head.2
   rwa [show p+1+1+I.length+1=p+1+I.length+2 by omega] at this
  refine⟨d,j,iL (sD h0.1 h0.2 (CO (Ag h1.head.2) (iL m (oO h3).x) (oO h3)) h3) f⟩
 ·rename_i e
  rw [if_neg e] at g f
  have n:qb l p (bR [40] :: I ++ ([],4,[41]) :: []):=g;obtain⟨d,j,m⟩:=Bc h (en:=en) n r;have q:p+(bR [40] :: I ++ [bR [41]]).length=p+I.length+2:=by simp;omega
  rw [q] at f ⊢
  exact⟨d,j,iL m f⟩
theorem Ni (ay:Bool)(I:bN)(s:bB):∃ g k t R,fG ay I s=(g,k,t) :: R∧Ny t:=by
 unfold fG;split <;> exact⟨_,_,_,_,rfl,Ag rfl⟩
theorem Aq (ay:Bool){I:bN}{s d:bB}{n:Nd}{new:List Nd}(h:abl I s d.id (new ++ [strip n]))(e:d.ns=s.ns ++ new)(j:strip n=n):vw s (bJ (fG ay I d) (fK ay d) n) (new ++ [n]):=by
 refine⟨?_,Ni ay I d,fun l en p ns f i m=>?_⟩
 ·show (fK ay d).ns ++ [n]=_
  rw [bW,e,List.append_assoc]
 ·have g:(bJ (fG ay I d) (fK ay d) n).ix=d.id:=by show ((fK ay d).ns.length:Int)=_;rw [bW];rfl
  rw [g,← j];exact Nj ay h f i m
def wnot:List Bs:=[[45],[110,111,116],[105,102],[108,101,116],[41],[116,114,117,101],[102,97,108,115,101],[40],[91],[105,110,116],[98,111,111,108],[46],[123]]
theorem gZ:∀ x ∈ iX,∀ y ∈ wnot,x ≠ y:=by decide
theorem oP (b:Nat):aY b ∈ iX:=uI iX _ (by show b % 8 < 8;omega)
theorem sG {l:List Tok}{p:Nat}{x:Bs}(d:x ∈ iX)(h:(tg l p).kind=1∧tx l p=x):Named l p :=
 ⟨h.1,by rw [h.2];exact⟨gZ x d _ (by decide),gZ x d _ (by decide),gZ x d _ (by decide),gZ x d _ (by decide)⟩⟩
theorem yg {x:Bs}(d:x ∈ iX):Ny x:=⟨gZ x d _ (by decide),gZ x d _ (by decide),gZ x d _ (by decide),gZ x d _ (by decide),gZ x d _ (by decide)⟩
theorem Ui:∀ n:Fin 140,(numOf (Go.Lib.itoa ((n.val:Nat):Int)) == n.val && hdB (Go.Lib.itoa ((n.val:Nat):Int)))=true:=by decide +kernel
theorem oh {n:Nat}(h:n < 140):numOf (Go.Lib.itoa (n:Int))=n∧Ny (Go.Lib.itoa (n:Int)):=by
 have h1:=Ui ⟨n,h⟩;rw [aaS] at h1
 exact⟨eq_of_beq h1.1,A8 h1.2⟩
theorem Kg (b:Nat)(g:b < 60)(s:bB):∃ new,vw s (kY b s) new:=by
 unfold kY;split
 ·rename_i h
  rw [CF];obtain⟨h1,h2⟩:=oh (n:=b * 7) (by omega)
  refine⟨_,⟨rfl,⟨_,_,_,_,rfl,h2⟩,fun l en p ns e f d=>?_⟩⟩
  have h0:=e.head
  refine⟨[⟨1,[],numOf (tx l p),[],pl l en p⟩],by rw [h0.2,h1];rfl,?_⟩
  show Runs l en .post p ns [(s.ns.length:Int)] (p+1) _
  rw [← f];exact iL (RZ h0.1) d
 ·split
  ·by_cases h2:b % 2=0
   ·rw [if_pos h2]
    refine⟨_,⟨rfl,⟨_,_,_,_,rfl,A8 (by decide)⟩,fun l en p ns e f d=>?_⟩⟩
    have h0:=e.head
    refine⟨[⟨2,[],0,[],pl l en p⟩],by rw [h2];rfl,?_⟩
    show Runs l en .post p ns [(s.ns.length:Int)] (p+1) _
    rw [← f];exact iL (Iq h0.1 h0.2) d
   ·rw [if_neg h2]
    refine⟨_,⟨rfl,⟨_,_,_,_,rfl,A8 (by decide)⟩,fun l en p ns e f d=>?_⟩⟩
    have h0:=e.head
    refine⟨[⟨2,[],1,[],pl l en p⟩],by rw [show b % 2=1 by omega];rfl,?_⟩
    show Runs l en .post p ns [(s.ns.length:Int)] (p+1) _
    rw [← f];exact iL (Nc h0.1 h0.2) d
  ·refine⟨_,⟨rfl,⟨_,_,_,_,rfl,yg (oP b)⟩,fun l en p ns e f d=>?_⟩⟩
   have h0:=e.head
   refine⟨[⟨3,tx l p,0,[],pl l en p⟩],by rw [h0.2];rfl,?_⟩
   show Runs l en .post p ns [(s.ns.length:Int)] (p+1) _
   rw [← f];exact iL (M9 (sG (oP b) h0) d.2.2.1 d.2.2.2) d
section
variable (ay:Bool) {E:bB→j4} (hE:∀ s,∃ new,vw s (E s) new)
include hE
theorem Zc (b:Nat)(s:bB):∃ new,vw s (zV ay E b s) new:=by
 obtain⟨new,h⟩:=hE s
 refine⟨_,Aq ay (s:=s) (new:=new) (n:=⟨if b % 2=0 then 5 else 4,[],0,[(E s).ix],0⟩) (fun l en p ns f q e=>?_) (by rw [aF,h.ns]) rfl⟩
 have h1:=f.tail.on;have g:p+((if b % 2=0 then (([]:Bs),3,([110,111,116]:Bs)) else bR [45]) :: bN.on (bG ay (E s).st) (E s).pc).length=p+1+(E s).pc.length:=by rw [List.length_cons,bL];omega
 rw [g] at e ⊢
 obtain⟨d,j,m⟩:=h.run l en (p+1) ns h1 q e.x;have hd:=h.hd h1
 have O:(aO ay (E s).st).id=((ns ++ d).length:Int):=by
  unfold bB.id;rw [aF,h.ns,aaO,aaO,q,← j,List.length_map]
 rw [O];by_cases i:b % 2=0
 ·rw [if_pos i] at f
  have h0:=f.head
  refine⟨d ++ [⟨5,[],0,[(E s).ix],pl l en p⟩],by rw [List.map_append,j,if_pos i];rfl,?_⟩
  rw [← List.append_assoc];exact qJ (by rw [h0.2];decide) (by rw [h0.2];decide) (KQ (Bp (RP h0.2 (nV hd.not (vk (pK hd.neg m) e))) e.and) e.or)
 ·rw [if_neg i] at f
  have h0:=f.head
  refine⟨d ++ [⟨4,[],0,[(E s).ix],pl l en p⟩],by rw [List.map_append,j,if_neg i];rfl,?_⟩
  rw [← List.append_assoc];exact qJ (by rw [h0.2];decide) (by rw [h0.2];decide) (KQ (Bp (nV (by rw [h0.2];decide) (vk (RN h0.2 (pK hd.neg m)) e)) e.and) e.or)
theorem XF (b:Nat)(s:bB):∃ new,vw s (CW ay E b s) new:=by
 obtain⟨new,h⟩:=hE s;obtain⟨B,h2⟩:=hE (E s).st
 refine⟨_,Aq ay (s:=s) (new:=new ++ B) (n:=⟨6+b % 13,[],0,[(E s).ix,(E (E s).st).ix],0⟩) (fun l en p ns D G f=>?_) (by rw [aF,aF,h2.ns,h.ns,List.append_assoc]) rfl⟩
 obtain⟨k,R⟩:∃ k,k=b % 13:=⟨_,rfl⟩;have J:k < 13:=by omega
 rw [← R] at D f ⊢
 have L:=D.left;have j:=D.right.head;have M:=D.right.tail.on
 have x:p+((E s).pc ++ (bG ay (E (E s).st).st,opK k,sg fD k) :: bN.on (bG ay (aO ay (E (E s).st).st)) (E (E s).st).pc).length=p+(E s).pc.length+1+(E (E s).st).pc.length:=by
  rw [aaO,List.length_cons,bL];omega
 rw [x] at f ⊢
 have H:BK (tx l (p+(E s).pc.length)):=by
  rw [j.2]
  have:∀ k:Fin 13,sg fD k.val ≠ [46]∧sg fD k.val ≠ [91]∧sg fD k.val ≠ [40]∧sg fD k.val ≠ [123]:=by decide
  exact this ⟨k,J⟩
 obtain⟨d,F,P⟩:=h.run l en p ns L G H;obtain⟨u,K,Q⟩:=h2.run l en (p+(E s).pc.length+1) (ns ++ d) M (by rw [aaO,G,h.ns,aaO,← F,List.length_map]) f.x;have hd:=h.hd L;have q:=h2.hd M
 have O:(aO ay (aO ay (E (E s).st).st)).id=((ns ++ d ++ u).length:Int):=by
  unfold bB.id;rw [aF,aF,h2.ns,h.ns];simp only [aaO,G,← F,← K,List.length_map]
 rw [O];have y:=pK hd.neg P;have m:=pK q.neg Q;have w:=vk m f
 refine⟨d ++ u ++ [⟨6+k,[],0,[(E s).ix,(E (E s).st).ix],pl l en (p+(E s).pc.length)⟩],by rw [List.map_append,List.map_append,F,K];rfl,?_⟩
 rw [← List.append_assoc,← List.append_assoc];have mk:∀ v:Lv,fB v (sg fD k)=6+k→Runs l en (.tail v (E s).ix) (p+(E s).pc.length) (ns ++ d) [((ns ++ d ++ u).length:Int)] (p+(E s).pc.length+1+(E (E s).st).pc.length) (ns ++ d ++ u ++ [⟨fB v (tx l (p+(E s).pc.length)),[],0,[(E s).ix,(E (E s).st).ix],pl l en (p+(E s).pc.length)⟩])→Runs l en (.tail v (E s).ix) (p+(E s).pc.length) (ns ++ d) [((ns ++ d ++ u).length:Int)] (p+(E s).pc.length+1+(E (E s).st).pc.length) (ns ++ d ++ u ++ [⟨6+k,[],0,[(E s).ix,(E (E s).st).ix],pl l en (p+(E s).pc.length)⟩]):=fun v e r=>by rw [j.2,e] at r;exact r
 have i:∀ v:Lv,fB v (sg fD k)=0→fB v (tx l (p+(E s).pc.length))=0:=fun v e=>by rw [j.2];exact e
 have A:∀ v:Lv,fB v (sg fD k)=6+k→fB v (tx l (p+(E s).pc.length)) ≠ 0:=fun v e=>by rw [j.2,e];omega
 have N:(k < 2∧fB .sum (sg fD k)=6+k∧fB .term (sg fD k)=0)∨(fB .term (sg fD k)=6+k)∨(fB .cmp (sg fD k)=6+k∧fB .sum (sg fD k)=0∧fB .term (sg fD k)=0) ∨
   (fB .and (sg fD k)=6+k∧fB .cmp (sg fD k)=0∧fB .sum (sg fD k)=0∧fB .term (sg fD k)=0)∨(fB .or (sg fD k)=6+k∧fB .and (sg fD k)=0∧fB .cmp (sg fD k)=0∧fB .sum (sg fD k)=0∧fB .term (sg fD k)=0):=by
  have:∀ k:Fin 13,(k.val < 2∧fB .sum (sg fD k.val)=6+k.val∧fB .term (sg fD k.val)=0)∨(fB .term (sg fD k.val)=6+k.val)∨(fB .cmp (sg fD k.val)=6+k.val∧fB .sum (sg fD k.val)=0∧fB .term (sg fD k.val)=0) ∨
   (fB .and (sg fD k.val)=6+k.val∧fB .cmp (sg fD k.val)=0∧fB .sum (sg fD k.val)=0∧fB .term (sg fD k.val)=0)∨(fB .or (sg fD k.val)=6+k.val∧fB .and (sg fD k.val)=0∧fB .cmp (sg fD k.val)=0∧fB .sum (sg fD k.val)=0∧fB .term (sg fD k.val)=0):=by decide
  exact this ⟨k,J⟩
 rcases N with ⟨_,g,t⟩ | g | ⟨g,t,C⟩ | ⟨g,t,C,I⟩ | ⟨g,t,C,I,S⟩
 ·exact wG hd (Bq (nZ ⟨by decide,by decide⟩ (sF y (i _ t)) (mk .sum g (qK (A _ g) (sF m f.term) f.sum))) f.cmp) f
 ·exact wG hd (Bq (y7 (nZ ⟨by decide,by decide⟩ y (mk .term g (qK (A _ g) m f.term))) f.sum) f.cmp) f
 ·exact wG hd (nZ ⟨by decide,by decide⟩ (y7 (sF y (i _ C)) (i _ t)) (mk .cmp g (qK (A _ g) (y7 (sF m f.term) f.sum) f.cmp))) f
 ·exact qJ hd.if_ hd.yB (KQ (nZ ⟨by decide,by decide⟩ (nV hd.not (Bq (y7 (sF y (i _ I)) (i _ C)) (i _ t))) (mk .and g (qK (A _ g) (nV q.not w) f.and))) f.or)
 ·exact qJ hd.if_ hd.yB (nZ ⟨by decide,by decide⟩ (Bp (nV hd.not (Bq (y7 (sF y (i _ S)) (i _ I)) (i _ C))) (i _ t)) (mk .or g (qK (A _ g) (Bp (nV q.not w) f.and) f.or)))
end
end Mist
