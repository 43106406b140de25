/-
  A part of the proof.
-/
import Derived.Test.YtalghggmkojblaaGreatDoorS23
set_option linter.all false
set_option maxRecDepth 100000
namespace Mist
theorem nO (wild:Bool)(s:Gs)(k:Nat)(t:Bs)(J:eO)(r:Bs):GH (ah ((dQ wild s,k,t) :: J) ++ r):=by
 show GH ((dQ wild s ++ (t ++ ah J)) ++ r)
 rw [List.append_assoc];exact EN wild s _
theorem JO {I:eO}(h:SI I)(wild:Bool)(s:Gs)(r:Bs):GH (ah (eO.on (dQ wild s) I) ++ r):=by
 rw [h.text,List.append_assoc];exact EN wild s _
theorem afI (I J:eO)(r:Bs):ah (I ++ J) ++ r=ah I ++ (ah J ++ r):=by rw [aX,List.append_assoc]
theorem ab5 {I:eO}(h:SI I)(wild:Bool)(s:Gs)(J:eO)(r:Bs):GH (ah (eO.on (dQ wild s) I ++ J) ++ r):=by
 rw [afI];exact JO h wild s _
theorem lK {c:UInt8}(h:dM c=false)(J:eO)(r:Bs):NP (ah (gu [c] :: J) ++ r):=agM h
theorem afw {x z:UInt8}(h:(x,z) ∈ ([(61,61),(60,61),(62,61),(46,46)]:List (UInt8 × UInt8))){I:eO}(d:SI I)(J:eO)(r:Bs):rz 4 [x] (ah (I ++ J) ++ r):=by
 rw [afI];obtain⟨c,r',e,h1,h2⟩:=d.ne [] (ah J ++ r);rw [e];refine FY x z h c r' ?_;simp only [List.mem_cons,Prod.mk.injEq,List.not_mem_nil,or_false] at h
 rcases h with ⟨_,rfl⟩ | ⟨_,rfl⟩ | ⟨_,rfl⟩ | ⟨_,rfl⟩ <;> assumption
theorem SI.append {I:eO}(h:SI I)(J:eO):SI (I ++ J):=by
 obtain⟨k,t,R,rfl,h⟩:=h;exact⟨k,t,R ++ J,rfl,h⟩
theorem LZ {c:UInt8}(h:c ≠ 61∧c ≠ 46)(J:eO):SI (gu [c] :: J):=⟨_,_,_,rfl,c,[],rfl,h⟩
section
variable (wild:Bool) {E:Gs→Gr} (hE:∀ s,EI (E s).pc)
include hE
theorem abX (b:Nat)(s:Gs):EI (Gx wild E b s).pc:=by
 refine wV _ _ (fun r e=>?_);have h:=(hE s).on (dZ wild (E s).st).1 r e;by_cases d:b % 2=0
 ·rw [if_pos d];exact bW bU (dP (by decide) (JO (hE s).start wild _ r).np) h
 ·rw [if_neg d];exact dJ (by decide) bU h
theorem aav (b:Nat)(s:Gs):EI (Nw wild E b s).pc :=
 wV _ _ (fun r d=>dF _ _ r ((hE s).good _ (nO wild _ _ _ _ r).np) (bW (dZ wild _).1 (aiP (b % 13) (by omega) (JO (hE _).start wild _ r)) ((hE _).on (dZ wild _).1 r d)))
theorem aeb (s:Gs):EI (ifG wild E s).pc :=
 wV _ _ (fun r d=>bW bU (dP (by decide) (ab5 (hE s).start wild _ _ r).np) (dF _ _ r ((hE s).on (dZ wild _).1 _ (nO wild _ _ _ _ r).np)
  (bW (dZ wild _).1 (dP (by decide) (ab5 (hE _).start wild _ _ r).np) (dF _ _ r ((hE _).on (dZ wild _).1 _ (nO wild _ _ _ _ r).np)
   (bW (dZ wild _).1 (dP (by decide) (JO (hE _).start wild _ r).np) ((hE _).on (dZ wild _).1 r d))))))
theorem abK {x:Bs}(e:pV 1 x=true)(s:Gs):EI (OU wild E x s).pc :=
 wV _ _ (fun r d=>bW bU (dP (by decide) (nO wild _ _ _ _ r).np) (bW (dZ wild _).1 (dP e (nO wild _ _ _ _ r).np) (bW (dZ wild _).1 (afw (z:=61) (by decide) (hE s).start _ r)
  (dF _ _ r ((hE s).good _ (nO wild _ _ _ _ r).np) (bW (dZ wild _).1 (dP (by decide) (JO (hE _).start wild _ r).np) ((hE _).on (dZ wild _).1 r d))))))
def Y9 (r:Gl):Prop:=(r.ix=[]→r.pc=[])∧(r.ix ≠ []→EI r.pc)
omit hE in
theorem Y9.pi {r:Gl}(h:Y9 r):PI r.pc:=by
 by_cases e:r.ix=[]
 ·rw [h.1 e];exact fun _ _=>trivial
 ·exact (h.2 e).good
theorem oz:∀ (m:Nat) (r:Gl),Y9 r→Y9 (eP wild E m r)
 | 0,r,h=>h
 | m+1,r,h=>by
  rw [eP];split
  ·rename_i e
   refine oz m _ ⟨fun h=>by simp at h,fun _=>?_⟩
   show EI (r.pc ++ (E r.st).pc)
   rw [h.1 e];exact hE _
  ·rename_i e
   refine oz m _ ⟨fun h=>by simp at h,fun _=>⟨fun x d=>?_,(h.2 e).start.append _⟩⟩;exact dF _ _ x ((h.2 e).good _ (lK (by decide) _ x)) (dJ (by decide) bU ((hE _).on (dZ wild _).1 x d))
omit hE in
theorem Vn:∀ (m:Nat) (r:Gl),r.ix ≠ []→(eP wild E m r).ix ≠ []
 | 0,r,h=>h
 | m+1,r,h=>by
  rw [eP];split <;> exact Vn m _ (by simp)
omit hE in
theorem abN (m:Nat)(r:Gl):(eP wild E (m+1) r).ix ≠ []:=by
 rw [eP];split <;> exact Vn wild m _ (by simp)
theorem Ww {x:Bs}(e:pV 1 x=true)(d:∃ c f,x=c :: f∧c ≠ 61∧c ≠ 46)(s:Gs):EI (D5 wild E x s).pc:=by
 have h:=oz wild hE (s.nx % 4) ⟨[],[],s.tl⟩ ⟨fun _=>rfl,fun h=>absurd rfl h⟩
 refine⟨fun r g=>bW bU (dP e (lK (by decide) _ r)) (dJ (by decide) bU (dF _ _ r (h.pi _ (nO wild _ _ _ _ r).np) (dJ (by decide) (dZ wild _).1 trivial))),_,_,_,rfl,d⟩
theorem R3 {x:Bs}(g:pV 1 x=true)(f:∃ c d,x=c :: d∧c ≠ 61∧c ≠ 46)(s:Gs):EI (vO wild E x s).pc:=by
 refine⟨fun r e=>dJ (by decide) bU (dF _ _ r ((hE s).good _ (lK (by decide) _ r)) (dJ (by decide) bU (bW (dZ wild _).1 ?_ (bW bU (dP g (by simpa [ah] using e)) trivial)))),LZ ⟨by decide,by decide⟩ _⟩
 obtain⟨c,d,rfl,h1,h2⟩:=f;exact FY 46 46 (by decide) c _ h2
theorem Sw (s:Gs):EI (vQ wild E s).pc :=
 ⟨fun r d=>dJ (by decide) bU (dF _ _ r ((hE s).good _ (lK (by decide) _ r)) (dJ (by decide) bU (dJ (by decide) bU (dF _ _ r ((hE _).good _ (nO wild _ _ _ _ r).np) (dJ (by decide) (dZ wild _).1 trivial))))),LZ ⟨by decide,by decide⟩ _⟩
theorem Rw (s:Gs):EI (vE wild E s).pc:=by
 have h:=oz wild hE (1+s.nx % 4) ⟨[],[],s.tl⟩ ⟨fun _=>rfl,fun h=>absurd rfl h⟩;have d:(eP wild E (1+s.nx % 4) ⟨[],[],s.tl⟩).ix ≠ []:=by rw [Nat.add_comm];exact abN wild _ _
 exact⟨fun r e=>dJ (by decide) bU (dF _ _ r ((h.2 d).on (dZ wild _).1 _ (lK (by decide) _ r)) (dJ (by decide) bU trivial)),LZ ⟨by decide,by decide⟩ _⟩
theorem J5:∀ (m:Nat) (r:Gl),Y9 r→Y9 (jw wild E m r)
 | 0,r,h=>h
 | m+1,r,h=>by
  rw [jw];obtain⟨c,i,g,h1,h2⟩:=lS (if r.ix=[] then r.st else aM wild r.st).nx
  have d:EI (([],1,dD (if r.ix=[] then r.st else aM wild r.st).nx) :: gu [58] :: (E (if r.ix=[] then r.st else aM wild r.st).tl).pc) :=
   ⟨fun x f=>bW bU (dP (oU _) (lK (by decide) _ x)) (dJ (by decide) bU ((hE _).good x f)),_,_,_,rfl,c,i,g,h1,h2⟩
  refine J5 m _ ⟨fun h=>by simp at h,fun _=>?_⟩
  show EI (r.pc ++ _)
  by_cases e:r.ix=[]
  ·rw [if_pos e] at d ⊢;rw [h.1 e];simp only [e,if_true] at d ⊢;exact d
  ·rw [if_neg e] at d ⊢;simp only [e,if_false] at d ⊢
   exact⟨fun x f=>dF _ _ x ((h.2 e).good _ (nO wild _ _ _ _ x).np) (dJ (by decide) (dZ wild _).1 (d.good x f)),(h.2 e).start.append _⟩
theorem acJ {x:Bs}(e:pV 1 x=true)(d:∃ c f,x=c :: f∧c ≠ 61∧c ≠ 46)(b:Nat)(s:Gs):EI (PG wild E x b s).pc:=by
 have h:=J5 wild hE (1+b % 3) ⟨[],[],s⟩ ⟨fun _=>rfl,fun h=>absurd rfl h⟩;exact⟨fun r g=>bW bU (dP e (lK (by decide) _ r)) (dJ (by decide) bU (dF _ _ r (h.pi _ (nO wild _ _ _ _ r).np) (dJ (by decide) (dZ wild _).1 trivial))),_,_,_,rfl,d⟩
theorem aeA (b:Nat)(s:Gs):EI (Ir wild E b s).pc:=by
 unfold Ir;split
 ·exact abX wild hE b s
 ·exact aav wild hE b s
theorem WE (b:Nat)(s:Gs):EI (jd wild E b s).pc:=by
 unfold jd;simp only
 have d:=oU s.nx;have e:=lS s.nx;split
 ·exact aeb wild hE _
 split
 ·exact abK wild hE d _
 split
 ·exact Ww wild hE d e _
 split
 ·exact R3 wild hE d e _
 split
 ·exact Sw wild hE _
 split
 ·exact Rw wild hE _
 ·exact acJ wild hE d e _ _
end
theorem jN (wild:Bool):∀ (d:Nat) (s:Gs),EI (dx wild d s).pc
 | 0,s=>JK _ (Nat.mod_lt _ (by decide)) _
 | d+1,s=>by
  rw [dx];split
  ·rename_i h;exact JK _ h _
  split
  ·exact aeA wild (jN wild d) _ _
  ·exact WE wild (jN wild d) _ _
theorem qV (wild:Bool):∀ (d:Nat) (s:Gs),EI (dG wild d s).pc
 | 0,s=>by
  rw [dG];obtain⟨c,g,f,h1,h2⟩:=lS s.nx;split
  ·exact⟨fun r e=>bW bU (dP (by decide) (by simpa [ah] using e)) trivial,_,_,_,rfl,_,_,rfl,by decide,by decide⟩
  split
  ·exact⟨fun r e=>bW bU (dP (by decide) (by simpa [ah] using e)) trivial,_,_,_,rfl,_,_,rfl,by decide,by decide⟩
  ·exact⟨fun r e=>bW bU (dP (oU _) (by simpa [ah] using e)) trivial,_,_,_,rfl,c,g,f,h1,h2⟩
 | d+1,s=>by
  rw [dG];obtain⟨c,g,f,h1,h2⟩:=lS s.nx;split
  ·exact⟨fun r e=>bW bU (dP (by decide) (by simpa [ah] using e)) trivial,_,_,_,rfl,_,_,rfl,by decide,by decide⟩
  split
  ·exact⟨fun r e=>bW bU (dP (by decide) (by simpa [ah] using e)) trivial,_,_,_,rfl,_,_,rfl,by decide,by decide⟩
  split
  ·exact⟨fun r e=>bW bU (dP (oU _) (by simpa [ah] using e)) trivial,_,_,_,rfl,c,g,f,h1,h2⟩
  ·have h:=qV wild d s.tl;exact⟨fun r e=>dJ (by decide) bU (dF _ _ r (h.good _ (nO wild _ _ _ _ r).np) (dJ (by decide) (dZ wild _).1 (bW bU (DC (vT _ (by omega)) (lK (by decide) _ r)) (dJ (by decide) bU trivial)))),LZ ⟨by decide,by decide⟩ _⟩
theorem vV (wild:Bool):∀ (m:Nat) (r:Gl),Y9 r→Y9 (dL wild m r)
 | 0,r,h=>h
 | m+1,r,h=>by
  rw [dL];refine vV wild m _ ⟨fun h=>by simp at h,fun _=>?_⟩
  show EI (r.pc ++ _)
  by_cases e:r.ix=[]
  ·obtain⟨c,i,g,h1,h2⟩:=lS r.st.nx;simp only [e,if_true];rw [h.1 e];have d:=qV wild 2 r.st.tl;exact⟨fun x f=>bW bU (dP (oU _) (lK (by decide) _ x)) (dJ (by decide) bU (d.on (dZ wild _).1 x f)),_,_,_,rfl,c,i,g,h1,h2⟩
  ·simp only [e,if_false];have d:=qV wild 2 (aM wild r.st).tl;exact⟨fun x f=>dF _ _ x ((h.2 e).good _ (lK (by decide) _ x)) (dJ (by decide) bU (bW (dZ wild _).1 (dP (oU _) (lK (by decide) _ x)) (dJ (by decide) bU (d.on (dZ wild _).1 x f)))),(h.2 e).start.append _⟩
theorem li0 (s:Gs):Y9 ⟨[],[],s⟩:=⟨fun _=>rfl,fun h=>absurd rfl h⟩
theorem F8 (r:Bs):GH (32 :: r):=⟨32,r,rfl,.inl rfl⟩
theorem uM {k:Nat}{c:UInt8}{t:Bs}(h:c ≠ 61∧c ≠ 46)(J:eO):SI (([],k,c :: t) :: J):=⟨_,_,_,rfl,c,t,rfl,h⟩
theorem aez {I:eO}(h:SI I)(r:Bs):NP (ah (eO.on [32] I) ++ r):=by rw [h.text];exact (F8 _).np
theorem SA (wild:Bool)(s:Gs):(∀ r,GH r→jY (gI wild s).pc r)∧SI (gI wild s).pc:=by
 unfold gI;simp only
 have i:=oU s.tl.nx;obtain⟨Q,S,N,J,M⟩:=lS s.tl.nx;split
 ·
  refine⟨fun r d=>?_,uM ⟨by decide,by decide⟩ _⟩
  obtain⟨y,A⟩:=yG (((s.tl.tl.nx % 30:Nat):Int) - 15) (by omega) (by omega);obtain⟨c1,c2⟩:=yG ((((s.tl.tl.nx % 30:Nat):Int) - 15)+(((eT (((s.tl.tl.nx % 30:Nat):Int) - 15) s.tl.tl.tl).st.nx % 12:Nat):Int)) (by omega) (by omega)
  exact bW bU (dP (by decide) (F8 _).np) (bW jS (dP i (lK (by decide) _ r)) (dJ (by decide) bU (dF _ _ r ((EI.mk y A).on (dZ wild _).1 _ (nO wild _ _ _ _ r).np)
   (bW (dZ wild _).1 (yP 46 46 (by decide) _) ((EI.mk c1 c2).on (dZ wild _).1 r d.np)))))
 split
 ·
  refine⟨fun r d=>?_,uM ⟨by decide,by decide⟩ _⟩
  have h:=vV wild (1+s.tl.tl.nx % 6) ⟨[],[],s.tl.tl.tl⟩ (li0 _);exact bW bU (dP (by decide) (F8 _).np) (bW jS (dP i (lK (by decide) _ r)) (bW bU (FY 61 61 (by decide) 123 _ (by decide)) (dJ (by decide) bU (dF _ _ r (h.pi _ (lK (by decide) _ r)) (dJ (by decide) bU trivial)))))
 split
 ·
  refine⟨fun r d=>?_,uM ⟨by decide,by decide⟩ _⟩
  have h:=vV wild (s.tl.tl.nx % 5) ⟨[],[],s.tl.tl.tl⟩ (li0 _);have F:=qV wild 2 (dL wild (s.tl.tl.nx % 5) ⟨[],[],s.tl.tl.tl⟩).st;unfold IL;simp only
  generalize dL wild (s.tl.tl.nx % 5) ⟨[],[],s.tl.tl.tl⟩=R at *
  generalize dG wild 2 R.st=K at *
  obtain⟨n,v⟩:∃ n,n=rX K.st:=⟨_,rfl⟩;have t:n < 140:=by rw [v];unfold rX;split <;> omega
  rw [← v]
  generalize H:(if 0 < n then aM wild K.st.tl else K.st.tl)=w
  have g:=jN wild 4 w
  generalize dx wild 4 w=B at *
  have f:jY ((dQ wild (aM wild (aM wild B.st)),4,[61]) :: B.pc) r:=bW (dZ wild _).1 (by have:=afw (x:=61) (z:=61) (by decide) g.start [] r;rwa [List.append_nil] at this) (g.good r d.np)
  have I:jY ((if 0 < n then [(([32]:Bs),3,([117,112,116,111]:Bs)),(dQ wild K.st.tl,2,Go.Lib.itoa (n:Int))] else []) ++ (dQ wild (aM wild (aM wild B.st)),4,[61]) :: B.pc) r:=by
   split
   ·exact bW jS (dP (by decide) (nO wild _ _ _ _ r).np) (bW (dZ wild _).1 (DC (vT n t) (nO wild _ _ _ _ r).np) f)
   ·exact f
  have u:NP (ah ((if 0 < n then [(([32]:Bs),3,([117,112,116,111]:Bs)),(dQ wild K.st.tl,2,Go.Lib.itoa (n:Int))] else []) ++ (dQ wild (aM wild (aM wild B.st)),4,[61]) :: B.pc) ++ r):=by
   split
   ·exact (F8 _).np
   ·exact (nO wild _ _ _ _ r).np
  exact bW bU (dP (by decide) (nO wild _ _ _ _ r).np) (bW (dZ wild _).1 (dP i (lK (by decide) _ r)) (dJ (by decide) bU (dF _ _ r (h.pi _ (lK (by decide) _ r)) (dJ (by decide) bU
   (dJ (by decide) (dZ wild _).1 (dF _ _ r (F.good _ u) I))))))
 split
 ·
  refine⟨fun r d=>?_,uM ⟨by decide,by decide⟩ _⟩
  have g:=jN wild 4 s.tl.tl
  have D:rz 4 [61] (ah (eO.on (dQ wild (dx wild 4 s.tl.tl).st) (dx wild 4 s.tl.tl).pc) ++ r):=by
   obtain⟨c,r',e,C⟩:=JO g.start wild (dx wild 4 s.tl.tl).st r;rw [e];exact FY 61 61 (by decide) c r' (by rcases C with rfl | rfl <;> decide)
  exact bW bU (dP (by decide) (F8 _).np) (bW jS (dP i (lK (by decide) _ r)) (bW bU D (g.on (dZ wild _).1 r d.np)))
 split
 ·
  refine⟨fun r d=>?_,uM ⟨by decide,by decide⟩ _⟩
  have g:=jN wild 4 s.tl.tl;exact bW bU (dP (by decide) (F8 _).np) (bW jS (dP i (nO wild _ _ _ _ r).np) (dJ (by decide) (dZ wild _).1 (g.good r d.np)))
 split
 ·
  exact⟨fun r d=>bW bU (dP (by decide) (nO wild _ _ _ _ r).np) (bW (dZ wild _).1 (dP i (by simpa [ah] using d.np)) trivial),uM ⟨by decide,by decide⟩ _⟩
 ·
  refine⟨fun r d=>?_,uM ⟨by decide,by decide⟩ _⟩
  unfold sw;simp only
  have G:pV 3 (sg mV (1+s.tl.tl.nx % 8))=true:=by
   have:∀ q:Fin 8,pV 3 (sg mV (1+q.val))=true:=by decide +kernel
   exact this ⟨s.tl.tl.nx % 8,by omega⟩
  generalize 1+s.tl.tl.nx % 8=q at *
  generalize P:(if q=7 then 0 else if q=8 then 1+s.tl.tl.tl.nx % 4 else 1)=m
  generalize (if q=8 then s.tl.tl.tl.tl else s.tl.tl.tl)=s3
  have j:=oz wild (jN wild 3) m ⟨[],[],s3⟩ (li0 _)
  generalize eP wild (dx wild 3) m ⟨[],[],s3⟩=L at *
  have h2:jY (eO.on [32] L.pc) r∧NP (ah (eO.on [32] L.pc) ++ r):=by
   by_cases e:L.ix=[]
   ·rw [j.1 e];exact⟨trivial,d.np⟩
   ·exact⟨(j.2 e).on jS r d.np,aez (j.2 e).start r⟩
  exact bW bU (dP (by decide) (nO wild _ _ _ _ r).np) (bW (dZ wild _).1 (dP G h2.2) h2.1)
theorem JC (wild:Bool)(s:Gs):(∀ r,jY (iF wild s).pc r)∧SI (iF wild s).pc:=by
 obtain⟨h1,h2⟩:=SA wild s
 have d:tY (iY s)∧(iY s=[]∨iY s=[32]):=by
  unfold iY;split
  ·exact⟨jS,.inr rfl⟩
  ·exact⟨bU,.inl rfl⟩
 refine⟨fun r=>dF _ _ r (h1 _ ?_) (dJ (by decide) (d.1.append (dZ wild _).1) trivial),h2.append _⟩
 show GH (((iY s ++ dQ wild _) ++ ([59] ++ [])) ++ r)
 rw [List.append_assoc,List.append_assoc];rcases d.2 with e | e
 ·rw [e];exact EN wild _ _
 ·rw [e];exact F8 _
def GIv (r:Gl):Prop:=(∀ x,jY r.pc x)∧(r.ix=[]→r.pc=[])
theorem Ju (wild:Bool):∀ (m:Nat) (r:Gl),GIv r→GIv (lF wild m r)
 | 0,r,h=>h
 | m+1,r,h=>by
  rw [lF];split
  ·exact h
  ·obtain⟨h1,h2⟩:=JC wild r.st;refine Ju wild m _ ⟨fun x=>?_,fun h=>by simp at h⟩
   show jY (r.pc ++ _) x
   by_cases e:r.ix=[]
   ·rw [if_pos e,h.2 e];exact h1 x
   ·rw [if_neg e];refine dF _ _ x (h.1 _) ?_;obtain⟨k,t,R,f,_⟩:=h2;have d:=h1 x;rw [f] at d ⊢
    exact⟨by show tY ([10] ++ []);exact EM,d.2.1,d.2.2⟩
theorem Sd (wild:Bool)(b:Bs)(r:Bs):jY (grown wild b).pc r:=(Ju wild 12 ⟨[],[],⟨b,[]⟩⟩ ⟨fun _=>trivial,fun _=>rfl⟩).1 r
theorem VB:∀ (I:eO) (E:Bs),jY I E→I.length≤((ah I).filter fun b=>!(b == 32) && !(b == 10)).length
 | [],_,_=>amN _
 | (g,k,t) :: I,E,⟨_,h2,h3⟩=>by
  have j:=VB I E h3
  show I.length+1≤((g ++ (t ++ ah I)).filter _).length
  rw [List.filter_append,List.filter_append,amQ,amQ]
  have:1≤(t.filter fun b=>!(b == 32) && !(b == 10)).length:=by
   have i:=h2.pos;have f:=h2.skip
   cases t with
   | nil=>simp at i
   | cons b t =>
    have d:xC b=false:=by
     cases h:xC b
     ·rfl
     ·exfalso
      have f:iI false (b :: (t ++ (ah I ++ E)))=0:=f;rw [iI,if_pos h] at f;omega
    have e:(!(b == 32) && !(b == 10))=true:=by
     unfold xC at d;simp only [Bool.or_eq_false_iff] at d;rw [d.1,d.2];rfl
    rw [List.filter_cons_of_pos (p:=fun b=>!(b == 32) && !(b == 10)) e];simp
  omega
end Mist
namespace Mist
def Le (r r':Option j5):Prop:=∀ x,r=some x→r'=some x
theorem Le.refl (r:Option j5):Le r r:=fun _ h=>h
theorem Le.none (r:Option j5):Le none r:=fun _ h=>by cases h
theorem Le.thn {r r':Option j5}{f d:List Int→Nat→List Nd→Option j5}(h:Le r r')(g:∀ a k ns,Le (f a k ns) (d a k ns)):Le (Mist.thn r f) (Mist.thn r' d):=by
 intro x e
 cases r with
 | none=>cases e
 | some y =>
  rw [h y rfl]
  cases y with
  | bad k=>exact e
  | ok a k ns=>exact g a k ns x e
theorem Le.ite {c:Prop}[Decidable c]{a d b e:Option j5}(h1:Le a d)(h2:Le b e):Le (if c then a else b) (if c then d else e):=by
 split
 ·exact h1
 ·exact h2
section
variable {l:List Tok} {en:Int}
theorem Le.need {s:Bs}{k:Nat}{f d:Option j5}(h:Le f d):Le (Mist.need l s k f) (Mist.need l s k d):=by
 unfold Mist.need;exact Le.ite h (Le.refl _)
theorem Le.eF {c k:Nat}{f d:Option j5}(h:Le f d):Le (Mist.eF l c k f) (Mist.eF l c k d):=by
 unfold Mist.eF;exact Le.ite h (Le.refl _)
theorem acS:∀ (n:Nat) (j:Job) (k:Nat) (ns:List Nd),Le (run l en n j k ns) (run l en (n+1) j k ns)
 | 0,j,k,ns=>by rw [run];exact Le.none _
 | n+1,j,k,ns=>by
  have d:=acS n
  match j with
  | .expr=>rw [run,run];repeat (first | exact d _ _ _ | exact Le.refl _ | refine Le.thn ?_ (fun _ _ _=>?_) | refine Le.need ?_ | refine Le.eF ?_ | refine Le.ite ?_ ?_)
  | .lv .not=>rw [run,run];repeat (first | exact d _ _ _ | exact Le.refl _ | refine Le.thn ?_ (fun _ _ _=>?_) | refine Le.need ?_ | refine Le.eF ?_ | refine Le.ite ?_ ?_)
  | .lv .unary=>rw [run,run];repeat (first | exact d _ _ _ | exact Le.refl _ | refine Le.thn ?_ (fun _ _ _=>?_) | refine Le.need ?_ | refine Le.eF ?_ | refine Le.ite ?_ ?_)
  | .lv .or=>rw [run,run] <;> first|(intro e;cases e;done)|(repeat (first | exact d _ _ _ | exact Le.refl _ | refine Le.thn ?_ (fun _ _ _=>?_)))
  | .lv .and=>rw [run,run] <;> first|(intro e;cases e;done)|(repeat (first | exact d _ _ _ | exact Le.refl _ | refine Le.thn ?_ (fun _ _ _=>?_)))
  | .lv .cmp=>rw [run,run] <;> first|(intro e;cases e;done)|(repeat (first | exact d _ _ _ | exact Le.refl _ | refine Le.thn ?_ (fun _ _ _=>?_)))
  | .lv .sum=>rw [run,run] <;> first|(intro e;cases e;done)|(repeat (first | exact d _ _ _ | exact Le.refl _ | refine Le.thn ?_ (fun _ _ _=>?_)))
  | .lv .term=>rw [run,run] <;> first|(intro e;cases e;done)|(repeat (first | exact d _ _ _ | exact Le.refl _ | refine Le.thn ?_ (fun _ _ _=>?_)))
  | .tail v a=>rw [run,run];repeat (first | exact d _ _ _ | exact Le.refl _ | refine Le.thn ?_ (fun _ _ _=>?_) | refine Le.need ?_ | refine Le.eF ?_ | refine Le.ite ?_ ?_)
  | .post=>rw [run,run];repeat (first | exact d _ _ _ | exact Le.refl _ | refine Le.thn ?_ (fun _ _ _=>?_) | refine Le.need ?_ | refine Le.eF ?_ | refine Le.ite ?_ ?_)
  | .qK a=>rw [run,run];repeat (first | exact d _ _ _ | exact Le.refl _ | refine Le.thn ?_ (fun _ _ _=>?_) | refine Le.need ?_ | refine Le.eF ?_ | refine Le.ite ?_ ?_)
  | .atom=>rw [run,run];repeat (first | exact d _ _ _ | exact Le.refl _ | refine Le.thn ?_ (fun _ _ _=>?_) | refine Le.need ?_ | refine Le.eF ?_ | refine Le.ite ?_ ?_)
  | .put=>rw [run,run];repeat (first | exact d _ _ _ | exact Le.refl _ | refine Le.thn ?_ (fun _ _ _=>?_) | refine Le.need ?_ | refine Le.eF ?_ | refine Le.ite ?_ ?_)
  | .param=>rw [run,run];repeat (first | exact d _ _ _ | exact Le.refl _ | refine Le.thn ?_ (fun _ _ _=>?_) | refine Le.need ?_ | refine Le.eF ?_ | refine Le.ite ?_ ?_)
  | .typ=>rw [run,run];repeat (first | exact d _ _ _ | exact Le.refl _ | refine Le.thn ?_ (fun _ _ _=>?_) | refine Le.need ?_ | refine Le.eF ?_ | refine Le.ite ?_ ?_)
  | .list e=>rw [run,run];repeat (first | exact d _ _ _ | exact Le.refl _ | refine Le.thn ?_ (fun _ _ _=>?_) | refine Le.need ?_ | refine Le.eF ?_ | refine Le.ite ?_ ?_)
  | .lI e f=>rw [run,run];repeat (first | exact d _ _ _ | exact Le.refl _ | refine Le.thn ?_ (fun _ _ _=>?_) | refine Le.need ?_ | refine Le.eF ?_ | refine Le.ite ?_ ?_)
theorem acT {n m:Nat}{j:Job}{k:Nat}{ns:List Nd}{x:j5}(h:run l en n j k ns=some x)(d:n≤m):run l en m j k ns=some x:=by
 induction d with
 | refl=>exact h
 | step _ e=>exact acS _ _ _ _ _ e
end
def Runs (l:List Tok)(en:Int)(j:Job)(k:Nat)(ns:List Nd)(a:List Int)(k':Nat)(ns':List Nd):Prop:=∃ n,run l en n j k ns=some (.ok a k' ns')
section
variable {l:List Tok} {en:Int} {k k1 k2 k3:Nat} {ns dI uX Ze:List Nd} {a b c:Int} {us:List Int}
theorem T_ (h0:tx l k ≠ [45])(h:Runs l en .post k ns [a] k1 dI):Runs l en (.lv .unary) k ns [a] k1 dI:=by
 obtain⟨n,d⟩:=h;exact⟨n+1,by rw [run,if_neg h0];exact d⟩
theorem Yq (h0:tx l k ≠ [110,111,116])(h:Runs l en (.lv .cmp) k ns [a] k1 dI):Runs l en (.lv .not) k ns [a] k1 dI:=by
 obtain⟨n,d⟩:=h;exact⟨n+1,by rw [run,if_neg h0];exact d⟩
theorem Cm {v:Lv}(hv:v ≠ .not∧v ≠ .unary)(h:Runs l en (.lv v.below) k ns [a] k1 dI)(h2:Runs l en (.tail v a) k1 dI [b] k2 uX):Runs l en (.lv v) k ns [b] k2 uX:=by
 obtain⟨n,f⟩:=h;obtain⟨m,d⟩:=h2
 refine⟨max n m+1,?_⟩
 have h1:=acT f (Nat.le_max_left n m);have h2:=acT d (Nat.le_max_right n m)
 cases v with
 | not=>exact absurd rfl hv.1
 | unary=>exact absurd rfl hv.2
 | or=>rw [run] <;> first|(show thn (run l en (max n m) (.lv .and) k ns) _=_;rw [show run l en (max n m) (.lv .and) k ns=_ from h1];exact h2)|(intro e;cases e)
 | and=>rw [run] <;> first|(show thn (run l en (max n m) (.lv .not) k ns) _=_;rw [show run l en (max n m) (.lv .not) k ns=_ from h1];exact h2)|(intro e;cases e)
 | cmp=>rw [run] <;> first|(show thn (run l en (max n m) (.lv .sum) k ns) _=_;rw [show run l en (max n m) (.lv .sum) k ns=_ from h1];exact h2)|(intro e;cases e)
 | sum=>rw [run] <;> first|(show thn (run l en (max n m) (.lv .term) k ns) _=_;rw [show run l en (max n m) (.lv .term) k ns=_ from h1];exact h2)|(intro e;cases e)
 | term=>rw [run] <;> first|(show thn (run l en (max n m) (.lv .unary) k ns) _=_;rw [show run l en (max n m) (.lv .unary) k ns=_ from h1];exact h2)|(intro e;cases e)
theorem qP {v:Lv}(h:mq v (tx l k)=0):Runs l en (.tail v a) k ns [a] k ns:=⟨1,by rw [run,if_pos h]⟩
theorem Yp (h1:tx l k ≠ [105,102])(h2:tx l k ≠ [108,101,116])(h:Runs l en (.lv .or) k ns [a] k1 dI):Runs l en .expr k ns [a] k1 dI:=by
 obtain⟨n,d⟩:=h;exact⟨n+1,by rw [run,if_neg h1,if_neg h2];exact d⟩
end
end Mist
namespace Mist
def strip (x:Nd):Nd:=⟨x.kind,x.text,x.n,x.kids,0⟩
def ML (l:List Tok)(p:Nat)(I:eO):Prop:=∀ i g k t,I[i]? = some (g,k,t)→(tg l (p+i)).kind=k∧tx l (p+i)=t
section
variable {l:List Tok} {p:Nat}
theorem ML.left {I J:eO}(h:ML l p (I ++ J)):ML l p I:=fun i g k t e=>h i g k t (by rw [List.getElem?_append_left (amG.1 e).1];exact e)
theorem ML.right {I J:eO}(h:ML l p (I ++ J)):ML l (p+I.length) J:=fun i g k t e=>by
 have:=h (I.length+i) g k t (by rw [List.getElem?_append_right (by omega),Nat.add_sub_cancel_left];exact e)
 rwa [← Nat.add_assoc] at this
theorem ML.head {g:Bs}{k:Nat}{t:Bs}{I:eO}(h:ML l p ((g,k,t) :: I)):(tg l p).kind=k∧tx l p=t:=h 0 g k t rfl
theorem ML.tail {x:Bs × Nat × Bs}{I:eO}(h:ML l p (x :: I)):ML l (p+1) I:=fun i g k t e=>by
 have:=h (i+1) g k t (by simpa using e)
 rwa [show p+(i+1)=p+1+i by omega] at this
theorem jP (g:Bs)(I:eO):(eO.on g I).length=I.length:=by cases I <;> rfl
theorem ML.on {g:Bs}{I:eO}(h:ML l p (eO.on g I)):ML l p I:=fun i g' k t e=>by
 cases I with
 | nil=>simp at e
 | cons x I =>
  obtain⟨h0,k0,f⟩:=x
  cases i with
  | zero =>
   have e:(h0,k0,f)=(g',k,t):=by simpa using e
   injection e with m d;injection d with d j;subst d;subst j
   exact h 0 _ k0 f rfl
  | succ i=>exact h (i+1) g' k t (by show I[i]? = _;simpa using e)
end
def afq (t:Bs):Prop:=t ≠ [46]∧t ≠ [91]∧t ≠ [40]∧t ≠ [123]
structure Nk (t:Bs):Prop where
 x:afq t
 term:mq .term t=0
 sum:mq .sum t=0
 cmp:mq .cmp t=0
 and:mq .and t=0
 or:mq .or t=0
structure HdT (t:Bs):Prop where
 neg:t ≠ [45]
 not:t ≠ [110,111,116]
 if_:t ≠ [105,102]
 Lg:t ≠ [108,101,116]
 shut:t ≠ [41]
section
variable {l:List Tok} {en:Int} {k k1:Nat} {ns dI:List Nd} {a:Int}
theorem afe (h:Runs l en (.lv .unary) k ns [a] k1 dI)(s:mq .term (tx l k1)=0):Runs l en (.lv .term) k ns [a] k1 dI:=Cm ⟨by decide,by decide⟩ h (qP s)
theorem ahc (h:Runs l en (.lv .term) k ns [a] k1 dI)(s:mq .sum (tx l k1)=0):Runs l en (.lv .sum) k ns [a] k1 dI:=Cm ⟨by decide,by decide⟩ h (qP s)
theorem ahb (h:Runs l en (.lv .sum) k ns [a] k1 dI)(s:mq .cmp (tx l k1)=0):Runs l en (.lv .cmp) k ns [a] k1 dI:=Cm ⟨by decide,by decide⟩ h (qP s)
theorem aha (h:Runs l en (.lv .not) k ns [a] k1 dI)(s:mq .and (tx l k1)=0):Runs l en (.lv .and) k ns [a] k1 dI:=Cm ⟨by decide,by decide⟩ h (qP s)
theorem ai7 (h:Runs l en (.lv .and) k ns [a] k1 dI)(s:mq .or (tx l k1)=0):Runs l en (.lv .or) k ns [a] k1 dI:=Cm ⟨by decide,by decide⟩ h (qP s)
theorem abW (hd:HdT (tx l k))(h:Runs l en (.lv .not) k ns [a] k1 dI)(s:Nk (tx l k1)):Runs l en .expr k ns [a] k1 dI:=Yp hd.if_ hd.Lg (ai7 (aha h s.and) s.or)
theorem aaA (hd:HdT (tx l k))(h:Runs l en (.lv .cmp) k ns [a] k1 dI)(s:Nk (tx l k1)):Runs l en .expr k ns [a] k1 dI:=abW hd (Yq hd.not h) s
theorem YV (h:Runs l en (.lv .unary) k ns [a] k1 dI)(s:Nk (tx l k1)):Runs l en (.lv .cmp) k ns [a] k1 dI:=ahb (ahc (afe h s.term) s.sum) s.cmp
theorem Ya (hd:HdT (tx l k))(h:Runs l en .post k ns [a] k1 dI)(s:Nk (tx l k1)):Runs l en .expr k ns [a] k1 dI:=aaA hd (YV (T_ hd.neg h) s) s
end
structure EP (s:Gs) (r:Gr) (new:List Nd):Prop where
 ns:r.st.ns=s.ns ++ new
 head:∃ g k t R,r.pc=(g,k,t) :: R∧HdT t
 run:∀ (l:List Tok) (en:Int) (p:Nat) (ns:List Nd),ML l p r.pc→ns.length=s.ns.length→afq (tx l (p+r.pc.length))→∃ new',new'.map strip=new∧Runs l en .post p ns [r.ix] (p+r.pc.length) (ns ++ new')
theorem EP.hd {s:Gs}{r:Gr}{new:List Nd}(h:EP s r new){l:List Tok}{p:Nat}(d:ML l p r.pc):HdT (tx l p):=by
 obtain⟨g,k,t,R,e,f⟩:=h.head;rw [e] at d
 rw [d.head.2];exact f
theorem EP.expr {s:Gs}{r:Gr}{new:List Nd}(h:EP s r new){l:List Tok}{en:Int}{p:Nat}{ns:List Nd}(e:ML l p r.pc)(g:ns.length=s.ns.length)(f:Nk (tx l (p+r.pc.length))) :
  ∃ d,d.map strip=new∧Runs l en .expr p ns [r.ix] (p+r.pc.length) (ns ++ d):=by
 obtain⟨d,h1,h2⟩:=h.run l en p ns e g f.x;exact⟨d,h1,Ya (h.hd e) h2 f⟩
theorem aO (wild:Bool)(s:Gs):(aM wild s).ns=s.ns:=by unfold aM Gs.tl;split <;> rfl
theorem eH (wild:Bool)(s:Gs):(kI wild s).ns=s.ns:=by
 unfold kI;split
 ·split
  ·rw [aO];rfl
  ·rfl
 ·rfl
theorem Km (b:Nat):dD b ∈ pG:=wh pG _ (by show b % 8 < 8;omega)
section
variable (wild:Bool) {E:Gs→Gr} (hE:∀ s,∃ new,EP s (E s) new)
include hE
end
end Mist
