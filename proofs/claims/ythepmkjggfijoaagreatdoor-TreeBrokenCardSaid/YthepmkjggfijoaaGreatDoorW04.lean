/-
  A part of the proof.
-/
import Derived.Test.YthepmkjggfijoaaGreatDoorSA
import Derived.Test.YthepmkjggfijoaaGreatDoorW03
set_option linter.all false
set_option maxRecDepth 100000
namespace Mist
theorem ny (ay:Bool)(s:bC)(k:Nat)(t:Bs)(J:bN)(r:Bs):QD (aN ((bG ay s,k,t) :: J) ++ r):=by
 show QD ((bG ay s ++ (t ++ aN J)) ++ r)
 rw [List.append_assoc];exact BP ay s _
theorem Fa {I:bN}(h:GV I)(ay:Bool)(s:bC)(r:Bs):QD (aN (bN.on (bG ay s) I) ++ r):=by
 rw [h.text,List.append_assoc];exact BP ay s _
theorem ZQ (I J:bN)(r:Bs):aN (I ++ J) ++ r=aN I ++ (aN J ++ r):=by rw [qZ,List.append_assoc]
theorem SQ {I:bN}(h:GV I)(ay:Bool)(s:bC)(J:bN)(r:Bs):QD (aN (bN.on (bG ay s) I ++ J) ++ r):=by
 rw [ZQ];exact Fa h ay s _
theorem jS {c:UInt8}(h:dI c=false)(J:bN)(r:Bs):NU (aN (bP [c] :: J) ++ r):=np_c h
theorem Y5 {x z:UInt8}(h:(x,z) ∈ ([(61,61),(60,61),(62,61),(46,46)]:List (UInt8 × UInt8))){I:bN}(d:GV I)(J:bN)(r:Bs):CJ 4 [x] (aN (I ++ J) ++ r):=by
 rw [ZQ];obtain⟨c,f,e,h1,h2⟩:=d.ne [] (aN J ++ r);rw [e];refine En x z h c f ?_;simp only [List.mem_cons,Prod.mk.injEq,List.not_mem_nil,or_false] at h
 rcases h with ⟨_,rfl⟩ | ⟨_,rfl⟩ | ⟨_,rfl⟩ | ⟨_,rfl⟩ <;> assumption
theorem GV.append {I:bN}(h:GV I)(J:bN):GV (I ++ J):=by
 obtain⟨k,t,R,rfl,h⟩:=h;exact⟨k,t,R ++ J,rfl,h⟩
theorem GH {c:UInt8}(h:c ≠ 61∧c ≠ 46)(J:bN):GV (bP [c] :: J):=⟨_,_,_,rfl,c,[],rfl,h⟩
section
variable (ay:Bool) {E:bC→kJ} (hE:∀ s,Ap (E s).pc)
include hE
theorem SN (b:Nat)(s:bC):Ap (BN ay E b s).pc:=by
 refine wK _ _ (fun r e=>?_);have h:=(hE s).on (bS ay (E s).st).1 r e;by_cases d:b % 2=0
 ·rw [if_pos d];exact bn aY (bR (by decide) (Fa (hE s).start ay _ r).np) h
 ·rw [if_neg d];exact bM (by decide) aY h
theorem QS (b:Nat)(s:bC):Ap (Ga ay E b s).pc :=
 wK _ _ (fun r d=>bJ _ _ r ((hE s).good _ (ny ay _ _ _ _ r).np) (bn (bS ay _).1 (op_ok (b % 13) (by omega) (Fa (hE _).start ay _ r)) ((hE _).on (bS ay _).1 r d)))
theorem Ww (s:bC):Ap (Va ay E s).pc :=
 wK _ _ (fun r d=>bn aY (bR (by decide) (SQ (hE s).start ay _ _ r).np) (bJ _ _ r ((hE s).on (bS ay _).1 _ (ny ay _ _ _ _ r).np)
  (bn (bS ay _).1 (bR (by decide) (SQ (hE _).start ay _ _ r).np) (bJ _ _ r ((hE _).on (bS ay _).1 _ (ny ay _ _ _ _ r).np)
   (bn (bS ay _).1 (bR (by decide) (Fa (hE _).start ay _ r).np) ((hE _).on (bS ay _).1 r d))))))
theorem SE {x:Bs}(e:xW 1 x=true)(s:bC):Ap (DW ay E x s).pc :=
 wK _ _ (fun r d=>bn aY (bR (by decide) (ny ay _ _ _ _ r).np) (bn (bS ay _).1 (bR e (ny ay _ _ _ _ r).np) (bn (bS ay _).1 (Y5 (z:=61) (by decide) (hE s).start _ r)
  (bJ _ _ r ((hE s).good _ (ny ay _ _ _ _ r).np) (bn (bS ay _).1 (bR (by decide) (Fa (hE _).start ay _ r).np) ((hE _).on (bS ay _).1 r d))))))
def Qm (r:pz):Prop:=(r.ix=[]→r.pc=[])∧(r.ix ≠ []→Ap r.pc)
omit hE in
theorem Qm.pi {r:pz}(h:Qm r):abh r.pc:=by
 by_cases e:r.ix=[]
 ·rw [h.1 e];exact fun _ _=>trivial
 ·exact (h.2 e).good
theorem oh:∀ (m:Nat) (r:pz),Qm r→Qm (bK ay E m r)
 | 0,r,h=>h
 | m+1,r,h=>by
  rw [bK];split
  ·rename_i e
   refine oh m _ ⟨fun h=>by simp at h,fun _=>?_⟩
   show Ap (r.pc ++ (E r.st).pc)
   rw [h.1 e];exact hE _
  ·rename_i e
   refine oh m _ ⟨fun h=>by simp at h,fun _=>⟨fun x d=>?_,(h.2 e).start.append _⟩⟩;exact bJ _ _ x ((h.2 e).good _ (jS (by decide) _ x)) (bM (by decide) aY ((hE _).on (bS ay _).1 x d))
omit hE in
theorem Ni:∀ (m:Nat) (r:pz),r.ix ≠ []→(bK ay E m r).ix ≠ []
 | 0,r,h=>h
 | m+1,r,h=>by
  rw [bK];split <;> exact Ni m _ (by simp)
omit hE in
theorem SF (m:Nat)(r:pz):(bK ay E (m+1) r).ix ≠ []:=by
 rw [bK];split <;> exact Ni ay m _ (by simp)
theorem N9 {x:Bs}(e:xW 1 x=true)(d:∃ c f,x=c :: f∧c ≠ 61∧c ≠ 46)(s:bC):Ap (xJ ay E x s).pc:=by
 have h:=oh ay hE (s.nx % 4) ⟨[],[],s.tl⟩ ⟨fun _=>rfl,fun h=>absurd rfl h⟩
 refine⟨fun r g=>bn aY (bR e (jS (by decide) _ r)) (bM (by decide) aY (bJ _ _ r (h.pi _ (ny ay _ _ _ _ r).np) (bM (by decide) (bS ay _).1 trivial))),_,_,_,rfl,d⟩
theorem Kr {x:Bs}(g:xW 1 x=true)(f:∃ c d,x=c :: d∧c ≠ 61∧c ≠ 46)(s:bC):Ap (sI ay E x s).pc:=by
 refine⟨fun r e=>bM (by decide) aY (bJ _ _ r ((hE s).good _ (jS (by decide) _ r)) (bM (by decide) aY (bn (bS ay _).1 ?_ (bn aY (bR g (by simpa [aN] using e)) trivial)))),GH ⟨by decide,by decide⟩ _⟩
 obtain⟨c,d,rfl,h1,h2⟩:=f;exact En 46 46 (by decide) c _ h2
theorem KC (s:bC):Ap (sP ay E s).pc :=
 ⟨fun r d=>bM (by decide) aY (bJ _ _ r ((hE s).good _ (jS (by decide) _ r)) (bM (by decide) aY (bM (by decide) aY (bJ _ _ r ((hE _).good _ (ny ay _ _ _ _ r).np) (bM (by decide) (bS ay _).1 trivial))))),GH ⟨by decide,by decide⟩ _⟩
theorem Kh (s:bC):Ap (rQ ay E s).pc:=by
 have h:=oh ay hE (1+s.nx % 4) ⟨[],[],s.tl⟩ ⟨fun _=>rfl,fun h=>absurd rfl h⟩;have d:(bK ay E (1+s.nx % 4) ⟨[],[],s.tl⟩).ix ≠ []:=by rw [Nat.add_comm];exact SF ay _ _
 exact⟨fun r e=>bM (by decide) aY (bJ _ _ r ((h.2 d).on (bS ay _).1 _ (jS (by decide) _ r)) (bM (by decide) aY trivial)),GH ⟨by decide,by decide⟩ _⟩
theorem FB:∀ (m:Nat) (r:pz),Qm r→Qm (eD ay E m r)
 | 0,r,h=>h
 | m+1,r,h=>by
  rw [eD];obtain⟨c,i,g,h1,h2⟩:=jU (if r.ix=[] then r.st else aX ay r.st).nx
  have d:Ap (([],1,bA (if r.ix=[] then r.st else aX ay r.st).nx) :: bP [58] :: (E (if r.ix=[] then r.st else aX ay r.st).tl).pc) :=
   ⟨fun x f=>bn aY (bR (o8 _) (jS (by decide) _ x)) (bM (by decide) aY ((hE _).good x f)),_,_,_,rfl,c,i,g,h1,h2⟩
  refine FB m _ ⟨fun h=>by simp at h,fun _=>?_⟩
  show Ap (r.pc ++ _)
  by_cases e:r.ix=[]
  ·rw [if_pos e] at d ⊢;rw [h.1 e];simp only [e,if_true] at d ⊢;exact d
  ·rw [if_neg e] at d ⊢;simp only [e,if_false] at d ⊢
   exact⟨fun x f=>bJ _ _ x ((h.2 e).good _ (ny ay _ _ _ _ x).np) (bM (by decide) (bS ay _).1 (d.good x f)),(h.2 e).start.append _⟩
theorem TF {x:Bs}(e:xW 1 x=true)(d:∃ c f,x=c :: f∧c ≠ 61∧c ≠ 46)(b:Nat)(s:bC):Ap (D_ ay E x b s).pc:=by
 have h:=FB ay hE (1+b % 3) ⟨[],[],s⟩ ⟨fun _=>rfl,fun h=>absurd rfl h⟩;exact⟨fun r g=>bn aY (bR e (jS (by decide) _ r)) (bM (by decide) aY (bJ _ _ r (h.pi _ (ny ay _ _ _ _ r).np) (bM (by decide) (bS ay _).1 trivial))),_,_,_,rfl,d⟩
theorem Xn (b:Nat)(s:bC):Ap (CW ay E b s).pc:=by
 unfold CW;split
 ·exact SN ay hE b s
 ·exact QS ay hE b s
theorem Oh (b:Nat)(s:bC):Ap (eF ay E b s).pc:=by
 unfold eF;simp only
 have d:=o8 s.nx;have e:=jU s.nx;split
 ·exact Ww ay hE _
 split
 ·exact SE ay hE d _
 split
 ·exact N9 ay hE d e _
 split
 ·exact Kr ay hE d e _
 split
 ·exact KC ay hE _
 split
 ·exact Kh ay hE _
 ·exact TF ay hE d e _ _
end
theorem iB (ay:Bool):∀ (d:Nat) (s:bC),Ap (bB ay d s).pc
 | 0,s=>ET _ (Nat.mod_lt _ (by decide)) _
 | d+1,s=>by
  rw [bB];split
  ·rename_i h;exact ET _ h _
  split
  ·exact Xn ay (iB ay d) _ _
  ·exact Oh ay (iB ay d) _ _
theorem qX (ay:Bool):∀ (d:Nat) (s:bC),Ap (bF ay d s).pc
 | 0,s=>by
  rw [bF];obtain⟨c,g,f,h1,h2⟩:=jU s.nx;split
  ·exact⟨fun r e=>bn aY (bR (by decide) (by simpa [aN] using e)) trivial,_,_,_,rfl,_,_,rfl,by decide,by decide⟩
  split
  ·exact⟨fun r e=>bn aY (bR (by decide) (by simpa [aN] using e)) trivial,_,_,_,rfl,_,_,rfl,by decide,by decide⟩
  ·exact⟨fun r e=>bn aY (bR (o8 _) (by simpa [aN] using e)) trivial,_,_,_,rfl,c,g,f,h1,h2⟩
 | d+1,s=>by
  rw [bF];obtain⟨c,g,f,h1,h2⟩:=jU s.nx;split
  ·exact⟨fun r e=>bn aY (bR (by decide) (by simpa [aN] using e)) trivial,_,_,_,rfl,_,_,rfl,by decide,by decide⟩
  split
  ·exact⟨fun r e=>bn aY (bR (by decide) (by simpa [aN] using e)) trivial,_,_,_,rfl,_,_,rfl,by decide,by decide⟩
  split
  ·exact⟨fun r e=>bn aY (bR (o8 _) (by simpa [aN] using e)) trivial,_,_,_,rfl,c,g,f,h1,h2⟩
  ·have h:=qX ay d s.tl;exact⟨fun r e=>bM (by decide) aY (bJ _ _ r (h.good _ (ny ay _ _ _ _ r).np) (bM (by decide) (bS ay _).1 (bn aY (Gp (wu _ (by omega)) (jS (by decide) _ r)) (bM (by decide) aY trivial)))),GH ⟨by decide,by decide⟩ _⟩
theorem wz (ay:Bool):∀ (m:Nat) (r:pz),Qm r→Qm (bE ay m r)
 | 0,r,h=>h
 | m+1,r,h=>by
  rw [bE];refine wz ay m _ ⟨fun h=>by simp at h,fun _=>?_⟩
  show Ap (r.pc ++ _)
  by_cases e:r.ix=[]
  ·obtain⟨c,i,g,h1,h2⟩:=jU r.st.nx;simp only [e,if_true];rw [h.1 e];have d:=qX ay 2 r.st.tl;exact⟨fun x f=>bn aY (bR (o8 _) (jS (by decide) _ x)) (bM (by decide) aY (d.on (bS ay _).1 x f)),_,_,_,rfl,c,i,g,h1,h2⟩
  ·simp only [e,if_false];have d:=qX ay 2 (aX ay r.st).tl;exact⟨fun x f=>bJ _ _ x ((h.2 e).good _ (jS (by decide) _ x)) (bM (by decide) aY (bn (bS ay _).1 (bR (o8 _) (jS (by decide) _ x)) (bM (by decide) aY (d.on (bS ay _).1 x f)))),(h.2 e).start.append _⟩
theorem li0 (s:bC):Qm ⟨[],[],s⟩:=⟨fun _=>rfl,fun h=>absurd rfl h⟩
theorem CQ (r:Bs):QD (32 :: r):=⟨32,r,rfl,.inl rfl⟩
theorem vJ {k:Nat}{c:UInt8}{t:Bs}(h:c ≠ 61∧c ≠ 46)(J:bN):GV (([],k,c :: t) :: J):=⟨_,_,_,rfl,c,t,rfl,h⟩
theorem Xl {I:bN}(h:GV I)(r:Bs):NU (aN (bN.on [32] I) ++ r):=by rw [h.text];exact (CQ _).np
theorem KD (ay:Bool)(s:bC):(∀ r,QD r→lu (bZ ay s).pc r)∧GV (bZ ay s).pc:=by
 unfold bZ;simp only
 have i:=o8 s.tl.nx;obtain⟨U,V,Q,N,P⟩:=jU s.tl.nx;split
 ·
  refine⟨fun r d=>?_,vJ ⟨by decide,by decide⟩ _⟩
  obtain⟨y,A⟩:=yM (((s.tl.tl.nx % 30:Nat):Int) - 15) (by omega) (by omega);obtain⟨C,D⟩:=yM ((((s.tl.tl.nx % 30:Nat):Int) - 15)+(((bX (((s.tl.tl.nx % 30:Nat):Int) - 15) s.tl.tl.tl).st.nx % 12:Nat):Int)) (by omega) (by omega)
  exact bn aY (bR (by decide) (CQ _).np) (bn jH (bR i (jS (by decide) _ r)) (bM (by decide) aY (bJ _ _ r ((Ap.mk y A).on (bS ay _).1 _ (ny ay _ _ _ _ r).np)
   (bn (bS ay _).1 (C_ 46 46 (by decide) _) ((Ap.mk C D).on (bS ay _).1 r d.np)))))
 split
 ·
  refine⟨fun r d=>?_,vJ ⟨by decide,by decide⟩ _⟩
  have h:=wz ay (1+s.tl.tl.nx % 6) ⟨[],[],s.tl.tl.tl⟩ (li0 _);exact bn aY (bR (by decide) (CQ _).np) (bn jH (bR i (jS (by decide) _ r)) (bn aY (En 61 61 (by decide) 123 _ (by decide)) (bM (by decide) aY (bJ _ _ r (h.pi _ (jS (by decide) _ r)) (bM (by decide) aY trivial)))))
 split
 ·
  refine⟨fun r d=>?_,vJ ⟨by decide,by decide⟩ _⟩
  have h:=wz ay (s.tl.tl.nx % 5) ⟨[],[],s.tl.tl.tl⟩ (li0 _);have H:=qX ay 2 (bE ay (s.tl.tl.nx % 5) ⟨[],[],s.tl.tl.tl⟩).st;unfold BG;simp only
  generalize bE ay (s.tl.tl.nx % 5) ⟨[],[],s.tl.tl.tl⟩=R at *
  generalize bF ay 2 R.st=K at *
  obtain⟨n,v⟩:∃ n,n=pO K.st:=⟨_,rfl⟩;have t:n < 140:=by rw [v];unfold pO;split <;> omega
  rw [← v]
  generalize J:(if 0 < n then aX ay K.st.tl else K.st.tl)=w
  have g:=iB ay 4 w
  generalize bB ay 4 w=B at *
  have f:lu ((bG ay (aX ay (aX ay B.st)),4,[61]) :: B.pc) r:=bn (bS ay _).1 (by have:=Y5 (x:=61) (z:=61) (by decide) g.start [] r;rwa [List.append_nil] at this) (g.good r d.np)
  have M:lu ((if 0 < n then [(([32]:Bs),3,([117,112,116,111]:Bs)),(bG ay K.st.tl,2,Go.Lib.itoa (n:Int))] else []) ++ (bG ay (aX ay (aX ay B.st)),4,[61]) :: B.pc) r:=by
   split
   ·exact bn jH (bR (by decide) (ny ay _ _ _ _ r).np) (bn (bS ay _).1 (Gp (wu n t) (ny ay _ _ _ _ r).np) f)
   ·exact f
  have u:NU (aN ((if 0 < n then [(([32]:Bs),3,([117,112,116,111]:Bs)),(bG ay K.st.tl,2,Go.Lib.itoa (n:Int))] else []) ++ (bG ay (aX ay (aX ay B.st)),4,[61]) :: B.pc) ++ r):=by
   split
   ·exact (CQ _).np
   ·exact (ny ay _ _ _ _ r).np
  exact bn aY (bR (by decide) (ny ay _ _ _ _ r).np) (bn (bS ay _).1 (bR i (jS (by decide) _ r)) (bM (by decide) aY (bJ _ _ r (h.pi _ (jS (by decide) _ r)) (bM (by decide) aY
   (bM (by decide) (bS ay _).1 (bJ _ _ r (H.good _ u) M))))))
 split
 ·
  refine⟨fun r d=>?_,vJ ⟨by decide,by decide⟩ _⟩
  have g:=iB ay 4 s.tl.tl
  have G:CJ 4 [61] (aN (bN.on (bG ay (bB ay 4 s.tl.tl).st) (bB ay 4 s.tl.tl).pc) ++ r):=by
   obtain⟨c,S,e,F⟩:=Fa g.start ay (bB ay 4 s.tl.tl).st r;rw [e];exact En 61 61 (by decide) c S (by rcases F with rfl | rfl <;> decide)
  exact bn aY (bR (by decide) (CQ _).np) (bn jH (bR i (jS (by decide) _ r)) (bn aY G (g.on (bS ay _).1 r d.np)))
 split
 ·
  refine⟨fun r d=>?_,vJ ⟨by decide,by decide⟩ _⟩
  have g:=iB ay 4 s.tl.tl;exact bn aY (bR (by decide) (CQ _).np) (bn jH (bR i (ny ay _ _ _ _ r).np) (bM (by decide) (bS ay _).1 (g.good r d.np)))
 split
 ·
  exact⟨fun r d=>bn aY (bR (by decide) (ny ay _ _ _ _ r).np) (bn (bS ay _).1 (bR i (by simpa [aN] using d.np)) trivial),vJ ⟨by decide,by decide⟩ _⟩
 ·
  refine⟨fun r d=>?_,vJ ⟨by decide,by decide⟩ _⟩
  unfold qz;simp only
  have I:xW 3 (sg jr (1+s.tl.tl.nx % 8))=true:=by
   have:∀ q:Fin 8,xW 3 (sg jr (1+q.val))=true:=by decide +kernel
   exact this ⟨s.tl.tl.nx % 8,by omega⟩
  generalize 1+s.tl.tl.nx % 8=q at *
  generalize T:(if q=7 then 0 else if q=8 then 1+s.tl.tl.tl.nx % 4 else 1)=m
  generalize (if q=8 then s.tl.tl.tl.tl else s.tl.tl.tl)=s3
  have j:=oh ay (iB ay 3) m ⟨[],[],s3⟩ (li0 _)
  generalize bK ay (bB ay 3) m ⟨[],[],s3⟩=L at *
  have h2:lu (bN.on [32] L.pc) r∧NU (aN (bN.on [32] L.pc) ++ r):=by
   by_cases e:L.ix=[]
   ·rw [j.1 e];exact⟨trivial,d.np⟩
   ·exact⟨(j.2 e).on jH r d.np,Xl (j.2 e).start r⟩
  exact bn aY (bR (by decide) (ny ay _ _ _ _ r).np) (bn (bS ay _).1 (bR I h2.2) h2.1)
theorem EO (ay:Bool)(s:bC):(∀ r,lu (dM ay s).pc r)∧GV (dM ay s).pc:=by
 obtain⟨h1,h2⟩:=KD ay s
 have d:vW (dQ s)∧(dQ s=[]∨dQ s=[32]):=by
  unfold dQ;split
  ·exact⟨jH,.inr rfl⟩
  ·exact⟨aY,.inl rfl⟩
 refine⟨fun r=>bJ _ _ r (h1 _ ?_) (bM (by decide) (d.1.append (bS ay _).1) trivial),h2.append _⟩
 show QD (((dQ s ++ bG ay _) ++ ([59] ++ [])) ++ r)
 rw [List.append_assoc,List.append_assoc];rcases d.2 with e | e
 ·rw [e];exact BP ay _ _
 ·rw [e];exact CQ _
def GIv (r:pz):Prop:=(∀ x,lu r.pc x)∧(r.ix=[]→r.pc=[])
theorem EC (ay:Bool):∀ (m:Nat) (r:pz),GIv r→GIv (jR ay m r)
 | 0,r,h=>h
 | m+1,r,h=>by
  rw [jR];split
  ·exact h
  ·obtain⟨h1,h2⟩:=EO ay r.st;refine EC ay m _ ⟨fun x=>?_,fun h=>by simp at h⟩
   show lu (r.pc ++ _) x
   by_cases e:r.ix=[]
   ·rw [if_pos e,h.2 e];exact h1 x
   ·rw [if_neg e];refine bJ _ _ x (h.1 _) ?_;obtain⟨k,t,R,f,_⟩:=h2;have d:=h1 x;rw [f] at d ⊢
    exact⟨by show vW ([10] ++ []);exact Gc,d.2.1,d.2.2⟩
theorem uU (ay:Bool)(b:Bs)(r:Bs):lu (grown ay b).pc r:=(EC ay 12 ⟨[],[],⟨b,[]⟩⟩ ⟨fun _=>trivial,fun _=>rfl⟩).1 r
theorem Nr:∀ (I:bN) (E:Bs),lu I E→I.length≤((aN I).filter fun b=>!(b == 32) && !(b == 10)).length
 | [],_,_=>aaL _
 | (g,k,t) :: I,E,⟨_,h2,h3⟩=>by
  have j:=Nr I E h3
  show I.length+1≤((g ++ (t ++ aN I)).filter _).length
  rw [List.filter_append,List.filter_append,aaO,aaO]
  have:1≤(t.filter fun b=>!(b == 32) && !(b == 10)).length:=by
   have i:=h2.pos;have f:=h2.skip
   cases t with
   | nil=>simp at i
   | cons b t =>
    have d:pR b=false:=by
     cases h:pR b
     ·rfl
     ·exfalso
      have f:gK false (b :: (t ++ (aN I ++ E)))=0:=f;rw [gK,if_pos h] at f;omega
    have e:(!(b == 32) && !(b == 10))=true:=by
     unfold pR at d;simp only [Bool.or_eq_false_iff] at d;rw [d.1,d.2];rfl
    rw [List.filter_cons_of_pos (p:=fun b=>!(b == 32) && !(b == 10)) e];simp
  omega
theorem Ky (ay:Bool)(b:Bs)(h:uJ (bY ay b)=true):Mist.read (bY ay b)=(fO 0 (grown ay b).pc,0,0)∧(grown ay b).pc.length≤800:=by
 unfold uJ at h
 rw [aaS,decide_eq_true_eq,decide_eq_true_eq] at h
 obtain⟨h1,h2⟩:=h;have f:=Nr (grown ay b).pc [] (uU ay b [])
 have d:(grown ay b).pc.length≤800:=by
  unfold bY at h2
  rw [List.filter_append,aaO] at h2
  omega
 refine⟨?_,d⟩
 unfold bY at h1 ⊢
 split
 ·rename_i e
  rw [if_pos e] at h1
  exact xS _ [] (uU ay b _) rfl rfl d h1
 ·rename_i e
  rw [if_neg e] at h1
  exact xS _ [10] (uU ay b _) (by decide) (by decide) d h1
end Mist
namespace Mist
def fE (r r':Option j6):Prop:=∀ x,r=some x→r'=some x
theorem fE.refl (r:Option j6):fE r r:=fun _ h=>h
theorem fE.none (r:Option j6):fE none r:=fun _ h=>by cases h
theorem fE.thn {r g:Option j6}{f d:List Int→Nat→List Nd→Option j6}(h:fE r g)(i:∀ a k ns,fE (f a k ns) (d a k ns)):fE (Mist.thn r f) (Mist.thn g d):=by
 intro x e
 cases r with
 | none=>cases e
 | some y =>
  rw [h y rfl]
  cases y with
  | bad k=>exact e
  | ok a k ns=>exact i a k ns x e
theorem fE.ite {c:Prop}[Decidable c]{a d b e:Option j6}(h1:fE a d)(h2:fE b e):fE (if c then a else b) (if c then d else e):=by
 split
 ·exact h1
 ·exact h2
section
variable {l:List Tok} {en:Int}
theorem fE.need {s:Bs}{k:Nat}{f d:Option j6}(h:fE f d):fE (Mist.need l s k f) (Mist.need l s k d):=by
 unfold Mist.need;exact fE.ite h (fE.refl _)
theorem fE.bI {c k:Nat}{f d:Option j6}(h:fE f d):fE (Mist.bI l c k f) (Mist.bI l c k d):=by
 unfold Mist.bI;exact fE.ite h (fE.refl _)
theorem Lf:∀ (n:Nat) (j:Job) (k:Nat) (ns:List Nd),fE (run l en n j k ns) (run l en (n+1) j k ns)
 | 0,j,k,ns=>by rw [run];exact fE.none _
 | n+1,j,k,ns=>by
  have d:=Lf n
  match j with
  | .expr=>rw [run,run];repeat (first | exact d _ _ _ | exact fE.refl _ | refine fE.thn ?_ (fun _ _ _=>?_) | refine fE.need ?_ | refine fE.bI ?_ | refine fE.ite ?_ ?_)
  | .lv .not=>rw [run,run];repeat (first | exact d _ _ _ | exact fE.refl _ | refine fE.thn ?_ (fun _ _ _=>?_) | refine fE.need ?_ | refine fE.bI ?_ | refine fE.ite ?_ ?_)
  | .lv .unary=>rw [run,run];repeat (first | exact d _ _ _ | exact fE.refl _ | refine fE.thn ?_ (fun _ _ _=>?_) | refine fE.need ?_ | refine fE.bI ?_ | refine fE.ite ?_ ?_)
  | .lv .or=>rw [run,run] <;> first|(intro e;cases e;done)|(repeat (first | exact d _ _ _ | exact fE.refl _ | refine fE.thn ?_ (fun _ _ _=>?_)))
  | .lv .and=>rw [run,run] <;> first|(intro e;cases e;done)|(repeat (first | exact d _ _ _ | exact fE.refl _ | refine fE.thn ?_ (fun _ _ _=>?_)))
  | .lv .cmp=>rw [run,run] <;> first|(intro e;cases e;done)|(repeat (first | exact d _ _ _ | exact fE.refl _ | refine fE.thn ?_ (fun _ _ _=>?_)))
  | .lv .sum=>rw [run,run] <;> first|(intro e;cases e;done)|(repeat (first | exact d _ _ _ | exact fE.refl _ | refine fE.thn ?_ (fun _ _ _=>?_)))
  | .lv .term=>rw [run,run] <;> first|(intro e;cases e;done)|(repeat (first | exact d _ _ _ | exact fE.refl _ | refine fE.thn ?_ (fun _ _ _=>?_)))
  | .tail v a=>rw [run,run];repeat (first | exact d _ _ _ | exact fE.refl _ | refine fE.thn ?_ (fun _ _ _=>?_) | refine fE.need ?_ | refine fE.bI ?_ | refine fE.ite ?_ ?_)
  | .post=>rw [run,run];repeat (first | exact d _ _ _ | exact fE.refl _ | refine fE.thn ?_ (fun _ _ _=>?_) | refine fE.need ?_ | refine fE.bI ?_ | refine fE.ite ?_ ?_)
  | .iq a=>rw [run,run];repeat (first | exact d _ _ _ | exact fE.refl _ | refine fE.thn ?_ (fun _ _ _=>?_) | refine fE.need ?_ | refine fE.bI ?_ | refine fE.ite ?_ ?_)
  | .atom=>rw [run,run];repeat (first | exact d _ _ _ | exact fE.refl _ | refine fE.thn ?_ (fun _ _ _=>?_) | refine fE.need ?_ | refine fE.bI ?_ | refine fE.ite ?_ ?_)
  | .put=>rw [run,run];repeat (first | exact d _ _ _ | exact fE.refl _ | refine fE.thn ?_ (fun _ _ _=>?_) | refine fE.need ?_ | refine fE.bI ?_ | refine fE.ite ?_ ?_)
  | .param=>rw [run,run];repeat (first | exact d _ _ _ | exact fE.refl _ | refine fE.thn ?_ (fun _ _ _=>?_) | refine fE.need ?_ | refine fE.bI ?_ | refine fE.ite ?_ ?_)
  | .typ=>rw [run,run];repeat (first | exact d _ _ _ | exact fE.refl _ | refine fE.thn ?_ (fun _ _ _=>?_) | refine fE.need ?_ | refine fE.bI ?_ | refine fE.ite ?_ ?_)
  | .list e=>rw [run,run];repeat (first | exact d _ _ _ | exact fE.refl _ | refine fE.thn ?_ (fun _ _ _=>?_) | refine fE.need ?_ | refine fE.bI ?_ | refine fE.ite ?_ ?_)
  | .eu e f=>rw [run,run];repeat (first | exact d _ _ _ | exact fE.refl _ | refine fE.thn ?_ (fun _ _ _=>?_) | refine fE.need ?_ | refine fE.bI ?_ | refine fE.ite ?_ ?_)
theorem eX {n m:Nat}{j:Job}{k:Nat}{ns:List Nd}{x:j6}(h:run l en n j k ns=some x)(d:n≤m):run l en m j k ns=some x:=by
 induction d with
 | refl=>exact h
 | step _ e=>exact Lf _ _ _ _ _ e
end
def Runs (l:List Tok)(en:Int)(j:Job)(k:Nat)(ns:List Nd)(a:List Int)(k':Nat)(ns':List Nd):Prop:=∃ n,run l en n j k ns=some (.ok a k' ns')
section
variable {l:List Tok} {en:Int} {k k1 k2 k3:Nat} {ns aJ fF uK:List Nd} {a b c:Int} {us:List Int}
theorem TR (h:(tg l k).kind=2):Runs l en .atom k ns [(ns.length:Int)] (k+1) (ns ++ [⟨1,[],numOf (tx l k),[],pl l en k⟩]) :=
 ⟨1,by rw [run,if_pos h];rfl⟩
theorem P6 (h0:(tg l k).kind=3)(h:tx l k=[116,114,117,101]):Runs l en .atom k ns [(ns.length:Int)] (k+1) (ns ++ [⟨2,[],1,[],pl l en k⟩]) :=
 ⟨1,by rw [run,if_neg (by rw [h0];decide),if_pos h];rfl⟩
theorem LD (h0:(tg l k).kind=3)(h:tx l k=[102,97,108,115,101]):Runs l en .atom k ns [(ns.length:Int)] (k+1) (ns ++ [⟨2,[],0,[],pl l en k⟩]) :=
 ⟨1,by rw [run,if_neg (by rw [h0];decide),if_neg (by rw [h];decide),if_pos h];rfl⟩
theorem vB (h0:(tg l k).kind=4)(h:tx l k=[40])(d:Runs l en .expr (k+1) ns [a] k1 aJ)(h1:tx l k1=[41]):Runs l en .atom k ns [a] (k1+1) aJ:=by
 obtain⟨n,e⟩:=d
 exact⟨n+1,by
  rw [run,if_neg (by rw [h0];decide),if_neg (by rw [h];decide),if_neg (by rw [h];decide),if_pos h,e]
  show need l [41] k1 _=_
  rw [need,if_pos h1];rfl⟩
theorem Lg (h0:(tg l k).kind=4)(h:tx l k=[91])(d:Runs l en (.list .expr) (k+1) ns us k1 aJ)(h1:tx l k1=[93]):Runs l en .atom k ns [(aJ.length:Int)] (k1+1) (aJ ++ [⟨26,[],0,us,pl l en k⟩]):=by
 obtain⟨n,e⟩:=d
 exact⟨n+1,by
  rw [run,if_neg (by rw [h0];decide),if_neg (by rw [h];decide),if_neg (by rw [h];decide),if_neg (by rw [h];decide),if_pos h,e]
  show need l [93] k1 _=_
  rw [need,if_pos h1];rfl⟩
structure Named (l:List Tok) (k:Nat):Prop where
 kind:(tg l k).kind=1
 ne:tx l k ≠ [116,114,117,101]∧tx l k ≠ [102,97,108,115,101]∧tx l k ≠ [40]∧tx l k ≠ [91]
theorem PX (h:Named l k)(h1:tx l (k+1) ≠ [40])(h2:tx l (k+1) ≠ [123]):Runs l en .atom k ns [(ns.length:Int)] (k+1) (ns ++ [⟨3,tx l k,0,[],pl l en k⟩]) :=
 ⟨1,by
  rw [run,if_neg (by rw [h.kind];decide),if_neg h.ne.1,if_neg h.ne.2.1,if_neg h.ne.2.2.1,if_neg h.ne.2.2.2]
  show bI l 1 k _=_
  unfold bI;rw [if_pos h.kind,if_neg h1,if_neg h2];rfl⟩
theorem Lr (h:Named l k)(h1:tx l (k+1)=[40])(h2:tx l (k+2)=[41]):Runs l en .atom k ns [(ns.length:Int)] (k+3) (ns ++ [⟨21,tx l k,0,[],pl l en k⟩]) :=
 ⟨1,by
  rw [run,if_neg (by rw [h.kind];decide),if_neg h.ne.1,if_neg h.ne.2.1,if_neg h.ne.2.2.1,if_neg h.ne.2.2.2]
  show bI l 1 k _=_
  unfold bI;rw [if_pos h.kind,if_pos h1,if_pos h2];rfl⟩
theorem PU (h:Named l k)(h1:tx l (k+1)=[40])(h2:tx l (k+2) ≠ [41])(d:Runs l en (.list .expr) (k+2) ns us k1 aJ)(h3:tx l k1=[41]):Runs l en .atom k ns [(aJ.length:Int)] (k1+1) (aJ ++ [⟨21,tx l k,0,us,pl l en k⟩]):=by
 obtain⟨n,e⟩:=d
 exact⟨n+1,by
  rw [run,if_neg (by rw [h.kind];decide),if_neg h.ne.1,if_neg h.ne.2.1,if_neg h.ne.2.2.1,if_neg h.ne.2.2.2]
  show bI l 1 k _=_
  unfold bI;rw [if_pos h.kind,if_pos h1,if_neg h2,e]
  show need l [41] k1 _=_
  rw [need,if_pos h3];rfl⟩
theorem TV (h:Named l k)(h1:tx l (k+1)=[123])(d:Runs l en (.list .put) (k+2) ns us k1 aJ)(h3:tx l k1=[125]):Runs l en .atom k ns [(aJ.length:Int)] (k1+1) (aJ ++ [⟨24,tx l k,0,us,pl l en k⟩]):=by
 obtain⟨n,e⟩:=d
 exact⟨n+1,by
  rw [run,if_neg (by rw [h.kind];decide),if_neg h.ne.1,if_neg h.ne.2.1,if_neg h.ne.2.2.1,if_neg h.ne.2.2.2]
  show bI l 1 k _=_
  unfold bI;rw [if_pos h.kind,if_neg (by rw [h1];decide),if_pos h1,e]
  show need l [125] k1 _=_
  rw [need,if_pos h3];rfl⟩
theorem AV (h:Runs l en .atom k ns [a] k1 aJ)(h2:Runs l en (.iq a) k1 aJ [b] k2 fF):Runs l en .post k ns [b] k2 fF:=by
 obtain⟨n,e⟩:=h;obtain⟨m,d⟩:=h2
 exact⟨max n m+1,by
  rw [run,eX e (Nat.le_max_left n m)]
  show run l en (max n m) (.iq a) k1 aJ=_
  exact eX d (Nat.le_max_right n m)⟩
theorem A8 (h1:tx l k ≠ [46])(h2:tx l k ≠ [91]):Runs l en (.iq a) k ns [a] k ns:=⟨1,by rw [run,if_neg h1,if_neg h2]⟩
theorem LK (h1:tx l k=[46])(h2:(tg l (k+1)).kind=1)(h3:Runs l en (.iq (ns.length:Int)) (k+2) (ns ++ [⟨22,tx l (k+1),0,[a],pl l en k⟩]) [b] k2 fF):Runs l en (.iq a) k ns [b] k2 fF:=by
 obtain⟨n,d⟩:=h3
 exact⟨n+1,by
  rw [run,if_pos h1]
  show bI l 1 (k+1) _=_
  unfold bI;rw [if_pos h2];exact d⟩
theorem LZ (h1:tx l k=[91])(d:Runs l en .expr (k+1) ns [b] k1 aJ)(h2:tx l k1=[93])(h3:Runs l en (.iq (aJ.length:Int)) (k1+1) (aJ ++ [⟨23,[],0,[a,b],pl l en k⟩]) [c] k2 fF):Runs l en (.iq a) k ns [c] k2 fF:=by
 obtain⟨n,f⟩:=d;obtain⟨m,e⟩:=h3
 exact⟨max n m+1,by
  rw [run,if_neg (by rw [h1];decide),if_pos h1,eX f (Nat.le_max_left n m)]
  show need l [93] k1 _=_
  rw [need,if_pos h2];exact eX e (Nat.le_max_right n m)⟩
theorem AO {e:El}(h:Runs l en e.job k ns [a] k1 aJ)(h2:Runs l en (.eu e [a]) k1 aJ us k2 fF):Runs l en (.list e) k ns us k2 fF:=by
 obtain⟨n,f⟩:=h;obtain⟨m,d⟩:=h2
 exact⟨max n m+1,by
  rw [run,eX f (Nat.le_max_left n m)];exact eX d (Nat.le_max_right n m)⟩
theorem yP {e:El}{d:List Int}(h1:tx l k ≠ [44]):Runs l en (.eu e d) k ns d k ns:=⟨1,by rw [run,if_neg h1]⟩
theorem yQ {e:El}{d:List Int}(h1:tx l k=[44])(h:Runs l en e.job (k+1) ns [a] k1 aJ)(h2:Runs l en (.eu e (d ++ [a])) k1 aJ us k2 fF):Runs l en (.eu e d) k ns us k2 fF:=by
 obtain⟨n,g⟩:=h;obtain⟨m,f⟩:=h2
 exact⟨max n m+1,by
  rw [run,if_pos h1,eX g (Nat.le_max_left n m)];exact eX f (Nat.le_max_right n m)⟩
theorem qQ (h0:tx l k ≠ [45])(h:Runs l en .post k ns [a] k1 aJ):Runs l en (.lv .unary) k ns [a] k1 aJ:=by
 obtain⟨n,d⟩:=h;exact⟨n+1,by rw [run,if_neg h0];exact d⟩
theorem TM (h0:tx l k=[45])(h:Runs l en (.lv .unary) (k+1) ns [a] k1 aJ):Runs l en (.lv .unary) k ns [(aJ.length:Int)] k1 (aJ ++ [⟨4,[],0,[a],pl l en k⟩]):=by
 obtain⟨n,d⟩:=h;exact⟨n+1,by rw [run,if_pos h0,d];rfl⟩
theorem oq (h0:tx l k ≠ [110,111,116])(h:Runs l en (.lv .cmp) k ns [a] k1 aJ):Runs l en (.lv .not) k ns [a] k1 aJ:=by
 obtain⟨n,d⟩:=h;exact⟨n+1,by rw [run,if_neg h0];exact d⟩
theorem TQ (h0:tx l k=[110,111,116])(h:Runs l en (.lv .not) (k+1) ns [a] k1 aJ):Runs l en (.lv .not) k ns [(aJ.length:Int)] k1 (aJ ++ [⟨5,[],0,[a],pl l en k⟩]):=by
 obtain⟨n,d⟩:=h;exact⟨n+1,by rw [run,if_pos h0,d];rfl⟩
theorem oK {v:Lv}(hv:v ≠ .not∧v ≠ .unary)(h:Runs l en (.lv v.below) k ns [a] k1 aJ)(h2:Runs l en (.tail v a) k1 aJ [b] k2 fF):Runs l en (.lv v) k ns [b] k2 fF:=by
 obtain⟨n,f⟩:=h;obtain⟨m,d⟩:=h2
 refine⟨max n m+1,?_⟩
 have h1:=eX f (Nat.le_max_left n m);have h2:=eX d (Nat.le_max_right n m)
 cases v with
 | not=>exact absurd rfl hv.1
 | unary=>exact absurd rfl hv.2
 | or=>rw [run] <;> first|(show thn (run l en (max n m) (.lv .and) k ns) _=_;rw [show run l en (max n m) (.lv .and) k ns=_ from h1];exact h2)|(intro e;cases e)
 | and=>rw [run] <;> first|(show thn (run l en (max n m) (.lv .not) k ns) _=_;rw [show run l en (max n m) (.lv .not) k ns=_ from h1];exact h2)|(intro e;cases e)
 | cmp=>rw [run] <;> first|(show thn (run l en (max n m) (.lv .sum) k ns) _=_;rw [show run l en (max n m) (.lv .sum) k ns=_ from h1];exact h2)|(intro e;cases e)
 | sum=>rw [run] <;> first|(show thn (run l en (max n m) (.lv .term) k ns) _=_;rw [show run l en (max n m) (.lv .term) k ns=_ from h1];exact h2)|(intro e;cases e)
 | term=>rw [run] <;> first|(show thn (run l en (max n m) (.lv .unary) k ns) _=_;rw [show run l en (max n m) (.lv .unary) k ns=_ from h1];exact h2)|(intro e;cases e)
theorem qK {v:Lv}(h:fB v (tx l k)=0):Runs l en (.tail v a) k ns [a] k ns:=⟨1,by rw [run,if_pos h]⟩
theorem tu {v:Lv}(h:fB v (tx l k) ≠ 0)(d:Runs l en (.lv v.below) (k+1) ns [b] k1 aJ)(h2:fB v (tx l k1)=0) :
  Runs l en (.tail v a) k ns [(aJ.length:Int)] k1 (aJ ++ [⟨fB v (tx l k),[],0,[a,b],pl l en k⟩]):=by
 obtain⟨n,e⟩:=d
 refine⟨max n 1+1,?_⟩
 rw [run,if_neg h,eX e (Nat.le_max_left n 1)]
 show (if v=.cmp then some (j6.ok [(aJ.length:Int)] k1 _) else run l en (max n 1) (.tail v (aJ.length:Int)) k1 _)=_
 split
 ·rfl
 ·exact eX (n:=1) (by rw [run,if_pos h2];rfl) (Nat.le_max_right n 1)
theorem tq (h1:tx l k ≠ [105,102])(h2:tx l k ≠ [108,101,116])(h:Runs l en (.lv .or) k ns [a] k1 aJ):Runs l en .expr k ns [a] k1 aJ:=by
 obtain⟨n,d⟩:=h;exact⟨n+1,by rw [run,if_neg h1,if_neg h2];exact d⟩
theorem Yr (h:tx l k=[105,102])(h1:Runs l en .expr (k+1) ns [a] k1 aJ)(g:tx l k1=[116,104,101,110])(h2:Runs l en .expr (k1+1) aJ [b] k2 fF)(i:tx l k2=[101,108,115,101])(h3:Runs l en .expr (k2+1) fF [c] k3 uK) :
  Runs l en .expr k ns [(uK.length:Int)] k3 (uK ++ [⟨19,[],0,[a,b,c],pl l en k⟩]):=by
 obtain⟨n,e⟩:=h1;obtain⟨m,d⟩:=h2;obtain⟨o,f⟩:=h3
 refine⟨max n (max m o)+1,?_⟩
 rw [run,if_pos h,eX e (by omega)]
 show need l _ k1 (thn (run l en (max n (max m o)) .expr (k1+1) aJ) _)=_
 rw [need,if_pos g,eX d (by omega)]
 show need l _ k2 (thn (run l en (max n (max m o)) .expr (k2+1) fF) _)=_
 rw [need,if_pos i,eX f (by omega)];rfl
theorem TK (h:tx l k=[108,101,116])(e:(tg l (k+1)).kind=1)(d:tx l (k+2)=[61])(h1:Runs l en .expr (k+3) ns [a] k1 aJ)(i:tx l k1=[105,110])(h2:Runs l en .expr (k1+1) aJ [b] k2 fF) :
  Runs l en .expr k ns [(fF.length:Int)] k2 (fF ++ [⟨20,tx l (k+1),0,[a,b],pl l en k⟩]):=by
 obtain⟨n,g⟩:=h1;obtain⟨m,f⟩:=h2
 refine⟨max n m+1,?_⟩
 rw [run,if_neg (by rw [h];decide),if_pos h]
 show ite ((tg l (k+1)).kind=1) _ _=_
 rw [if_pos e]
 show ite (tx l (k+2)=[61]) _ _=_
 rw [if_pos d,eX g (by omega)]
 show need l _ k1 (thn (run l en (max n m) .expr (k1+1) aJ) _)=_
 rw [need,if_pos i,eX f (by omega)];rfl
theorem TU (d:(tg l k).kind=1)(h1:tx l (k+1)=[58])(h:Runs l en .expr (k+2) ns [a] k1 aJ):Runs l en .put k ns [(aJ.length:Int)] k1 (aJ ++ [⟨25,tx l k,0,[a],pl l en k⟩]):=by
 obtain⟨n,e⟩:=h
 refine⟨n+1,?_⟩
 rw [run]
 show ite ((tg l k).kind=1) _ _=_
 rw [if_pos d]
 show ite (tx l (k+1)=[58]) _ _=_
 rw [if_pos h1,e];rfl
theorem L8 (d:(tg l k).kind=1)(h1:tx l (k+1)=[58])(h:Runs l en .typ (k+2) ns [a] k1 aJ):Runs l en .param k ns [(aJ.length:Int)] k1 (aJ ++ [⟨34,tx l k,0,[a],pl l en k⟩]):=by
 obtain⟨n,e⟩:=h
 refine⟨n+1,?_⟩
 rw [run]
 show ite ((tg l k).kind=1) _ _=_
 rw [if_pos d]
 show ite (tx l (k+1)=[58]) _ _=_
 rw [if_pos h1,e];rfl
theorem TJ (h:tx l k=[105,110,116]):Runs l en .typ k ns [(ns.length:Int)] (k+1) (ns ++ [⟨30,[],0,[],pl l en k⟩]):=⟨1,by rw [run,if_pos h];rfl⟩
theorem Py (h:tx l k=[98,111,111,108]):Runs l en .typ k ns [(ns.length:Int)] (k+1) (ns ++ [⟨31,[],0,[],pl l en k⟩]):=⟨1,by rw [run,if_neg (by rw [h];decide),if_pos h];rfl⟩
theorem L6 (d:(tg l k).kind=1)(h1:tx l k ≠ [105,110,116])(h2:tx l k ≠ [98,111,111,108])(h3:tx l k ≠ [91]):Runs l en .typ k ns [(ns.length:Int)] (k+1) (ns ++ [⟨32,tx l k,0,[],pl l en k⟩]) :=
 ⟨1,by
  rw [run,if_neg h1,if_neg h2,if_neg h3]
  show ite ((tg l k).kind=1) _ _=_
  rw [if_pos d];rfl⟩
theorem TW (h:tx l k=[91])(h1:Runs l en .typ (k+1) ns [a] k1 aJ)(f:tx l k1=[59])(d:(tg l (k1+1)).kind=2)(g:tx l (k1+2)=[93]) :
  Runs l en .typ k ns [(aJ.length:Int)] (k1+3) (aJ ++ [⟨33,[],numOf (tx l (k1+1)),[a],pl l en k⟩]):=by
 obtain⟨n,e⟩:=h1
 refine⟨n+1,?_⟩
 rw [run,if_neg (by rw [h];decide),if_neg (by rw [h];decide),if_pos h,e]
 show need l _ k1 _=_
 rw [need,if_pos f]
 show ite ((tg l (k1+1)).kind=2) _ _=_
 rw [if_pos d]
 show ite (tx l (k1+2)=[93]) _ _=_
 rw [if_pos g];rfl
end
end Mist
namespace Mist
def strip (x:Nd):Nd:=⟨x.kind,x.text,x.n,x.kids,0⟩
def rO (l:List Tok)(p:Nat)(I:bN):Prop:=∀ i g k t,I[i]? = some (g,k,t)→(tg l (p+i)).kind=k∧tx l (p+i)=t
section
variable {l:List Tok} {p:Nat}
theorem rO.left {I J:bN}(h:rO l p (I ++ J)):rO l p I:=fun i g k t e=>h i g k t (by rw [List.getElem?_append_left (aaE.1 e).1];exact e)
theorem rO.right {I J:bN}(h:rO l p (I ++ J)):rO l (p+I.length) J:=fun i g k t e=>by
 have:=h (I.length+i) g k t (by rw [List.getElem?_append_right (by omega),Nat.add_sub_cancel_left];exact e)
 rwa [← Nat.add_assoc] at this
theorem rO.head {g:Bs}{k:Nat}{t:Bs}{I:bN}(h:rO l p ((g,k,t) :: I)):(tg l p).kind=k∧tx l p=t:=h 0 g k t rfl
theorem rO.tail {x:Bs × Nat × Bs}{I:bN}(h:rO l p (x :: I)):rO l (p+1) I:=fun i g k t e=>by
 have:=h (i+1) g k t (by simpa using e)
 rwa [show p+(i+1)=p+1+i by omega] at this
theorem bL (g:Bs)(I:bN):(bN.on g I).length=I.length:=by cases I <;> rfl
theorem rO.on {g:Bs}{I:bN}(h:rO l p (bN.on g I)):rO l p I:=fun i g' k t e=>by
 cases I with
 | nil=>simp at e
 | cons x I =>
  obtain⟨h0,k0,f⟩:=x
  cases i with
  | zero =>
   have e:(h0,k0,f)=(g',k,t):=by simpa using e
   injection e with m d;injection d with d j;subst d;subst j
   exact h 0 _ k0 f rfl
  | succ i=>exact h (i+1) g' k t (by show I[i]? = _;simpa using e)
end
def Eh (t:Bs):Prop:=t ≠ [46]∧t ≠ [91]∧t ≠ [40]∧t ≠ [123]
structure mG (t:Bs):Prop where
 x:Eh t
 term:fB .term t=0
 sum:fB .sum t=0
 cmp:fB .cmp t=0
 and:fB .and t=0
 or:fB .or t=0
def Ua (t:Bs):Bool:=!(t == [46]) && !(t == [91]) && !(t == [40]) && !(t == [123]) && fB .term t == 0 && fB .sum t == 0 && fB .cmp t == 0 && fB .and t == 0 && fB .or t == 0
theorem JL {t:Bs}(h:Ua t=true):mG t:=by
 unfold Ua at h
 simp only [aaS,Bool.not_eq_true',aaF,beq_iff_eq] at h
 obtain⟨⟨⟨⟨⟨⟨⟨⟨h1,h2⟩,h3⟩,h4⟩,h5⟩,h6⟩,h7⟩,h8⟩,h9⟩:=h;exact⟨⟨h1,h2,h3,h4⟩,h5,h6,h7,h8,h9⟩
structure Qh (t:Bs):Prop where
 neg:t ≠ [45]
 not:t ≠ [110,111,116]
 if_:t ≠ [105,102]
 yB:t ≠ [108,101,116]
 shut:t ≠ [41]
def hdB (t:Bs):Bool:=!(t == [45]) && !(t == [110,111,116]) && !(t == [105,102]) && !(t == [108,101,116]) && !(t == [41])
theorem CS {t:Bs}(h:hdB t=true):Qh t:=by
 unfold hdB at h
 simp only [aaS,Bool.not_eq_true',aaF] at h
 obtain⟨⟨⟨⟨h1,h2⟩,h3⟩,h4⟩,h5⟩:=h;exact⟨h1,h2,h3,h4,h5⟩
section
variable {l:List Tok} {en:Int} {k k1:Nat} {ns aJ:List Nd} {a:Int}
theorem vG (h:Runs l en (.lv .unary) k ns [a] k1 aJ)(s:fB .term (tx l k1)=0):Runs l en (.lv .term) k ns [a] k1 aJ:=oK ⟨by decide,by decide⟩ h (qK s)
theorem Ba (h:Runs l en (.lv .term) k ns [a] k1 aJ)(s:fB .sum (tx l k1)=0):Runs l en (.lv .sum) k ns [a] k1 aJ:=oK ⟨by decide,by decide⟩ h (qK s)
theorem Dt (h:Runs l en (.lv .sum) k ns [a] k1 aJ)(s:fB .cmp (tx l k1)=0):Runs l en (.lv .cmp) k ns [a] k1 aJ:=oK ⟨by decide,by decide⟩ h (qK s)
theorem Di (h:Runs l en (.lv .not) k ns [a] k1 aJ)(s:fB .and (tx l k1)=0):Runs l en (.lv .and) k ns [a] k1 aJ:=oK ⟨by decide,by decide⟩ h (qK s)
theorem NS (h:Runs l en (.lv .and) k ns [a] k1 aJ)(s:fB .or (tx l k1)=0):Runs l en (.lv .or) k ns [a] k1 aJ:=oK ⟨by decide,by decide⟩ h (qK s)
theorem SL (hd:Qh (tx l k))(h:Runs l en (.lv .not) k ns [a] k1 aJ)(s:mG (tx l k1)):Runs l en .expr k ns [a] k1 aJ:=tq hd.if_ hd.yB (NS (Di h s.and) s.or)
theorem yV (hd:Qh (tx l k))(h:Runs l en (.lv .cmp) k ns [a] k1 aJ)(s:mG (tx l k1)):Runs l en .expr k ns [a] k1 aJ:=SL hd (oq hd.not h) s
theorem wL (h:Runs l en (.lv .unary) k ns [a] k1 aJ)(s:mG (tx l k1)):Runs l en (.lv .cmp) k ns [a] k1 aJ:=Dt (Ba (vG h s.term) s.sum) s.cmp
theorem Fz (hd:Qh (tx l k))(h:Runs l en .post k ns [a] k1 aJ)(s:mG (tx l k1)):Runs l en .expr k ns [a] k1 aJ:=yV hd (wL (qQ hd.neg h) s) s
theorem iR (h:Runs l en .atom k ns [a] k1 aJ)(s:Eh (tx l k1)):Runs l en .post k ns [a] k1 aJ:=AV h (A8 s.1 s.2.1)
end
structure wN (s:bC) (r:kJ) (new:List Nd):Prop where
 ns:r.st.ns=s.ns ++ new
 head:∃ g k t R,r.pc=(g,k,t) :: R∧Qh t
 run:∀ (l:List Tok) (en:Int) (p:Nat) (ns:List Nd),rO l p r.pc→ns.length=s.ns.length→Eh (tx l (p+r.pc.length))→∃ new',new'.map strip=new∧Runs l en .post p ns [r.ix] (p+r.pc.length) (ns ++ new')
theorem wN.hd {s:bC}{r:kJ}{new:List Nd}(h:wN s r new){l:List Tok}{p:Nat}(d:rO l p r.pc):Qh (tx l p):=by
 obtain⟨g,k,t,R,e,f⟩:=h.head;rw [e] at d
 rw [d.head.2];exact f
theorem wN.expr {s:bC}{r:kJ}{new:List Nd}(h:wN s r new){l:List Tok}{en:Int}{p:Nat}{ns:List Nd}(e:rO l p r.pc)(g:ns.length=s.ns.length)(f:mG (tx l (p+r.pc.length))) :
  ∃ d,d.map strip=new∧Runs l en .expr p ns [r.ix] (p+r.pc.length) (ns ++ d):=by
 obtain⟨d,h1,h2⟩:=h.run l en p ns e g f.x;exact⟨d,h1,Fz (h.hd e) h2 f⟩
def abl (I:bN)(s:bC)(a:Int)(new:List Nd):Prop:=∀ (l:List Tok) (en:Int) (p:Nat) (ns:List Nd),rO l p I→ns.length=s.ns.length→mG (tx l (p+I.length))→∃ new',new'.map strip=new∧Runs l en .expr p ns [a] (p+I.length) (ns ++ new')
theorem qb {t:Bs}(h:t=[41]):mG t:=by rw [h];exact JL (by decide)
theorem BQ {t:Bs}(h:t=[40]):Qh t:=by rw [h];exact CS (by decide)
theorem CY {I:bN}{s:bC}{a:Int}{new:List Nd}(h:abl I s a new){g:Bs}{l:List Tok}{en:Int}{p:Nat}{ns:List Nd}{J:bN}(e:rO l p (bP [40] :: I ++ (g,4,[41]) :: J))(j:ns.length=s.ns.length) :
  ∃ d,d.map strip=new∧Runs l en .atom p ns [a] (p+I.length+2) (ns ++ d):=by
 have h0:=e.head;have h1:rO l (p+1) (I ++ (g,4,[41]) :: J):=e.tail;have h2:=h1.right.head;obtain⟨d,f,i⟩:=h l en (p+1) ns h1.left j (qb h2.2)
 exact⟨d,f,by
  have:=vB h0.1 h0.2 i h2.2
  rwa [show p+1+I.length+1=p+I.length+2 by omega] at this⟩
theorem aF (ay:Bool)(s:bC):(aX ay s).ns=s.ns:=by unfold aX bC.tl;split <;> rfl
theorem bV (ay:Bool)(s:bC):(gX ay s).ns=s.ns:=by
 unfold gX;split
 ·split
  ·rw [aF];rfl
  ·rfl
 ·rfl
theorem P9 (ay:Bool){I:bN}{s i:bC}{a:Int}{new:List Nd}(h:abl I s a new){l:List Tok}{en:Int}{p:Nat}{ns:List Nd}(g:rO l p (fK ay I i))(r:ns.length=s.ns.length)(f:Eh (tx l (p+(fK ay I i).length))) :
  ∃ d,d.map strip=new∧Runs l en .post p ns [a] (p+(fK ay I i).length) (ns ++ d):=by
 unfold fK at g f ⊢
 split
 ·rename_i e
  rw [if_pos e] at g f
  have h1:rO l (p+1) (bP [40] :: I ++ (bG ay i.tl,4,[41]) :: [bP [41]]):=g.tail;have h0:=g.head;obtain⟨d,j,m⟩:=CY h (en:=en) h1 r;have q:p+(bP [40] :: bP [40] :: I ++ [(bG ay i.tl,4,[41]),bP [41]]).length=p+1+I.length+2+1:=by simp;omega
  rw [q] at f ⊢
  have h3:tx l (p+1+I.length+2)=[41]:=by
   have h4:rO l (p+1+1) (I ++ [(bG ay i.tl,4,[41]),bP [41]]):=h1.tail
   have:=h4.right.tail.head.2
   rwa [show p+1+1+I.length+1=p+1+I.length+2 by omega] at this
  refine⟨d,j,iR (vB h0.1 h0.2 (Fz (BQ h1.head.2) (iR m (qb h3).x) (qb h3)) h3) f⟩
 ·rename_i e
  rw [if_neg e] at g f
  have n:rO l p (bP [40] :: I ++ ([],4,[41]) :: []):=g;obtain⟨d,j,m⟩:=CY h (en:=en) n r;have q:p+(bP [40] :: I ++ [bP [41]]).length=p+I.length+2:=by simp;omega
  rw [q] at f ⊢
  exact⟨d,j,iR m f⟩
theorem P7 (ay:Bool)(I:bN)(s:bC):∃ g k t R,fK ay I s=(g,k,t) :: R∧Qh t:=by
 unfold fK;split <;> exact⟨_,_,_,_,rfl,BQ rfl⟩
theorem CF (ay:Bool){I:bN}{s d:bC}{n:Nd}{new:List Nd}(h:abl I s d.id (new ++ [strip n]))(e:d.ns=s.ns ++ new)(j:strip n=n):wN s (bH (fK ay I d) (gX ay d) n) (new ++ [n]):=by
 refine⟨?_,P7 ay I d,fun l en p ns f i m=>?_⟩
 ·show (gX ay d).ns ++ [n]=_
  rw [bV,e,List.append_assoc]
 ·have g:(bH (fK ay I d) (gX ay d) n).ix=d.id:=by show ((gX ay d).ns.length:Int)=_;rw [bV];rfl
  rw [g,← j];exact P9 ay h f i m
def wnot:List Bs:=[[45],[110,111,116],[105,102],[108,101,116],[41],[116,114,117,101],[102,97,108,115,101],[40],[91],[105,110,116],[98,111,111,108],[46],[123]]
theorem iK:∀ x ∈ j4,∀ y ∈ wnot,x ≠ y:=by decide
theorem ql (b:Nat):bA b ∈ j4:=wD j4 _ (by show b % 8 < 8;omega)
theorem vI {l:List Tok}{p:Nat}{x:Bs}(d:x ∈ j4)(h:(tg l p).kind=1∧tx l p=x):Named l p :=
 ⟨h.1,by rw [h.2];exact⟨iK x d _ (by decide),iK x d _ (by decide),iK x d _ (by decide),iK x d _ (by decide)⟩⟩
theorem Aj {x:Bs}(d:x ∈ j4):Qh x:=⟨iK x d _ (by decide),iK x d _ (by decide),iK x d _ (by decide),iK x d _ (by decide),iK x d _ (by decide)⟩
theorem Xi:∀ n:Fin 140,(numOf (Go.Lib.itoa ((n.val:Nat):Int)) == n.val && hdB (Go.Lib.itoa ((n.val:Nat):Int)))=true:=by decide +kernel
theorem oO {n:Nat}(h:n < 140):numOf (Go.Lib.itoa (n:Int))=n∧Qh (Go.Lib.itoa (n:Int)):=by
 have h1:=Xi ⟨n,h⟩;rw [aaS] at h1
 exact⟨eq_of_beq h1.1,CS h1.2⟩
theorem M8 (b:Nat)(g:b < 60)(s:bC):∃ new,wN s (lF b s) new:=by
 unfold lF;split
 ·rename_i h
  rw [O4];obtain⟨h1,h2⟩:=oO (n:=b * 7) (by omega)
  refine⟨_,⟨rfl,⟨_,_,_,_,rfl,h2⟩,fun l en p ns e f d=>?_⟩⟩
  have h0:=e.head
  refine⟨[⟨1,[],numOf (tx l p),[],pl l en p⟩],by rw [h0.2,h1];rfl,?_⟩
  show Runs l en .post p ns [(s.ns.length:Int)] (p+1) _
  rw [← f];exact iR (TR h0.1) d
 ·split
  ·by_cases h2:b % 2=0
   ·rw [if_pos h2]
    refine⟨_,⟨rfl,⟨_,_,_,_,rfl,CS (by decide)⟩,fun l en p ns e f d=>?_⟩⟩
    have h0:=e.head
    refine⟨[⟨2,[],0,[],pl l en p⟩],by rw [h2];rfl,?_⟩
    show Runs l en .post p ns [(s.ns.length:Int)] (p+1) _
    rw [← f];exact iR (LD h0.1 h0.2) d
   ·rw [if_neg h2]
    refine⟨_,⟨rfl,⟨_,_,_,_,rfl,CS (by decide)⟩,fun l en p ns e f d=>?_⟩⟩
    have h0:=e.head
    refine⟨[⟨2,[],1,[],pl l en p⟩],by rw [show b % 2=1 by omega];rfl,?_⟩
    show Runs l en .post p ns [(s.ns.length:Int)] (p+1) _
    rw [← f];exact iR (P6 h0.1 h0.2) d
  ·refine⟨_,⟨rfl,⟨_,_,_,_,rfl,Aj (ql b)⟩,fun l en p ns e f d=>?_⟩⟩
   have h0:=e.head
   refine⟨[⟨3,tx l p,0,[],pl l en p⟩],by rw [h0.2];rfl,?_⟩
   show Runs l en .post p ns [(s.ns.length:Int)] (p+1) _
   rw [← f];exact iR (PX (vI (ql b) h0) d.2.2.1 d.2.2.2) d
section
variable (ay:Bool) {E:bC→kJ} (hE:∀ s,∃ new,wN s (E s) new)
include hE
theorem not_ep (b:Nat)(s:bC):∃ new,wN s (BN ay E b s) new:=by
 obtain⟨new,h⟩:=hE s
 refine⟨_,CF ay (s:=s) (new:=new) (n:=⟨if b % 2=0 then 5 else 4,[],0,[(E s).ix],0⟩) (fun l en p ns f q e=>?_) (by rw [aF,h.ns]) rfl⟩
 have h1:=f.tail.on;have g:p+((if b % 2=0 then (([]:Bs),3,([110,111,116]:Bs)) else bP [45]) :: bN.on (bG ay (E s).st) (E s).pc).length=p+1+(E s).pc.length:=by rw [List.length_cons,bL];omega
 rw [g] at e ⊢
 obtain⟨d,j,m⟩:=h.run l en (p+1) ns h1 q e.x;have hd:=h.hd h1
 have O:(aX ay (E s).st).id=((ns ++ d).length:Int):=by
  unfold bC.id;rw [aF,h.ns,aaO,aaO,q,← j,List.length_map]
 rw [O];by_cases i:b % 2=0
 ·rw [if_pos i] at f
  have h0:=f.head
  refine⟨d ++ [⟨5,[],0,[(E s).ix],pl l en p⟩],by rw [List.map_append,j,if_pos i];rfl,?_⟩
  rw [← List.append_assoc];exact tq (by rw [h0.2];decide) (by rw [h0.2];decide) (NS (Di (TQ h0.2 (oq hd.not (wL (qQ hd.neg m) e))) e.and) e.or)
 ·rw [if_neg i] at f
  have h0:=f.head
  refine⟨d ++ [⟨4,[],0,[(E s).ix],pl l en p⟩],by rw [List.map_append,j,if_neg i];rfl,?_⟩
  rw [← List.append_assoc];exact tq (by rw [h0.2];decide) (by rw [h0.2];decide) (NS (Di (oq (by rw [h0.2];decide) (wL (TM h0.2 (qQ hd.neg m)) e)) e.and) e.or)
theorem bin_ep (b:Nat)(s:bC):∃ new,wN s (Ga ay E b s) new:=by
 obtain⟨new,h⟩:=hE s;obtain⟨B,h2⟩:=hE (E s).st
 refine⟨_,CF ay (s:=s) (new:=new ++ B) (n:=⟨6+b % 13,[],0,[(E s).ix,(E (E s).st).ix],0⟩) (fun l en p ns D G f=>?_) (by rw [aF,aF,h2.ns,h.ns,List.append_assoc]) rfl⟩
 obtain⟨k,R⟩:∃ k,k=b % 13:=⟨_,rfl⟩;have J:k < 13:=by omega
 rw [← R] at D f ⊢
 have L:=D.left;have j:=D.right.head;have M:=D.right.tail.on
 have x:p+((E s).pc ++ (bG ay (E (E s).st).st,opK k,sg gL k) :: bN.on (bG ay (aX ay (E (E s).st).st)) (E (E s).st).pc).length=p+(E s).pc.length+1+(E (E s).st).pc.length:=by
  rw [aaO,List.length_cons,bL];omega
 rw [x] at f ⊢
 have H:Eh (tx l (p+(E s).pc.length)):=by
  rw [j.2]
  have:∀ k:Fin 13,sg gL k.val ≠ [46]∧sg gL k.val ≠ [91]∧sg gL k.val ≠ [40]∧sg gL k.val ≠ [123]:=by decide
  exact this ⟨k,J⟩
 obtain⟨d,F,P⟩:=h.run l en p ns L G H;obtain⟨u,K,Q⟩:=h2.run l en (p+(E s).pc.length+1) (ns ++ d) M (by rw [aaO,G,h.ns,aaO,← F,List.length_map]) f.x;have hd:=h.hd L;have q:=h2.hd M
 have O:(aX ay (aX ay (E (E s).st).st)).id=((ns ++ d ++ u).length:Int):=by
  unfold bC.id;rw [aF,aF,h2.ns,h.ns];simp only [aaO,G,← F,← K,List.length_map]
 rw [O];have y:=qQ hd.neg P;have m:=qQ q.neg Q;have w:=wL m f
 refine⟨d ++ u ++ [⟨6+k,[],0,[(E s).ix,(E (E s).st).ix],pl l en (p+(E s).pc.length)⟩],by rw [List.map_append,List.map_append,F,K];rfl,?_⟩
 rw [← List.append_assoc,← List.append_assoc];have mk:∀ v:Lv,fB v (sg gL k)=6+k→Runs l en (.tail v (E s).ix) (p+(E s).pc.length) (ns ++ d) [((ns ++ d ++ u).length:Int)] (p+(E s).pc.length+1+(E (E s).st).pc.length) (ns ++ d ++ u ++ [⟨fB v (tx l (p+(E s).pc.length)),[],0,[(E s).ix,(E (E s).st).ix],pl l en (p+(E s).pc.length)⟩])→Runs l en (.tail v (E s).ix) (p+(E s).pc.length) (ns ++ d) [((ns ++ d ++ u).length:Int)] (p+(E s).pc.length+1+(E (E s).st).pc.length) (ns ++ d ++ u ++ [⟨6+k,[],0,[(E s).ix,(E (E s).st).ix],pl l en (p+(E s).pc.length)⟩]):=fun v e r=>by rw [j.2,e] at r;exact r
 have i:∀ v:Lv,fB v (sg gL k)=0→fB v (tx l (p+(E s).pc.length))=0:=fun v e=>by rw [j.2];exact e
 have A:∀ v:Lv,fB v (sg gL k)=6+k→fB v (tx l (p+(E s).pc.length)) ≠ 0:=fun v e=>by rw [j.2,e];omega
 have N:(k < 2∧fB .sum (sg gL k)=6+k∧fB .term (sg gL k)=0)∨(fB .term (sg gL k)=6+k)∨(fB .cmp (sg gL k)=6+k∧fB .sum (sg gL k)=0∧fB .term (sg gL k)=0) ∨
   (fB .and (sg gL k)=6+k∧fB .cmp (sg gL k)=0∧fB .sum (sg gL k)=0∧fB .term (sg gL k)=0)∨(fB .or (sg gL k)=6+k∧fB .and (sg gL k)=0∧fB .cmp (sg gL k)=0∧fB .sum (sg gL k)=0∧fB .term (sg gL k)=0):=by
  have:∀ k:Fin 13,(k.val < 2∧fB .sum (sg gL k.val)=6+k.val∧fB .term (sg gL k.val)=0)∨(fB .term (sg gL k.val)=6+k.val)∨(fB .cmp (sg gL k.val)=6+k.val∧fB .sum (sg gL k.val)=0∧fB .term (sg gL k.val)=0) ∨
   (fB .and (sg gL k.val)=6+k.val∧fB .cmp (sg gL k.val)=0∧fB .sum (sg gL k.val)=0∧fB .term (sg gL k.val)=0)∨(fB .or (sg gL k.val)=6+k.val∧fB .and (sg gL k.val)=0∧fB .cmp (sg gL k.val)=0∧fB .sum (sg gL k.val)=0∧fB .term (sg gL k.val)=0):=by decide
  exact this ⟨k,J⟩
 rcases N with ⟨_,g,t⟩ | g | ⟨g,t,C⟩ | ⟨g,t,C,I⟩ | ⟨g,t,C,I,S⟩
 ·exact yV hd (Dt (oK ⟨by decide,by decide⟩ (vG y (i _ t)) (mk .sum g (tu (A _ g) (vG m f.term) f.sum))) f.cmp) f
 ·exact yV hd (Dt (Ba (oK ⟨by decide,by decide⟩ y (mk .term g (tu (A _ g) m f.term))) f.sum) f.cmp) f
 ·exact yV hd (oK ⟨by decide,by decide⟩ (Ba (vG y (i _ C)) (i _ t)) (mk .cmp g (tu (A _ g) (Ba (vG m f.term) f.sum) f.cmp))) f
 ·exact tq hd.if_ hd.yB (NS (oK ⟨by decide,by decide⟩ (oq hd.not (Dt (Ba (vG y (i _ I)) (i _ C)) (i _ t))) (mk .and g (tu (A _ g) (oq q.not w) f.and))) f.or)
 ·exact tq hd.if_ hd.yB (oK ⟨by decide,by decide⟩ (Di (oq hd.not (Dt (Ba (vG y (i _ S)) (i _ I)) (i _ C))) (i _ t)) (mk .or g (tu (A _ g) (Di (oq q.not w) f.and) f.or)))
end
end Mist
