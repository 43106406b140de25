/-
  A part of the proof.
-/
import Derived.Test.YthepmkjggfijoaaGreatDoorSA
import Derived.Test.YthepmkjggfijoaaGreatDoorJ03
set_option linter.all false
set_option maxRecDepth 100000
namespace Mist
theorem pc_gh (wild:Bool)(s:abd)(k:Nat)(t:Bs)(J:Pcs)(r:Bs):abf (aN ((acP wild s,k,t) :: J) ++ r):=by
 show abf ((acP wild s ++ (t ++ aN J)) ++ r)
 rw [List.append_assoc];exact gapG_gh wild s _
theorem on_gh {I:Pcs}(h:abj I)(wild:Bool)(s:abd)(r:Bs):abf (aN (Pcs.on (acP wild s) I) ++ r):=by
 rw [h.text,List.append_assoc];exact gapG_gh wild s _
theorem text2 (I J:Pcs)(r:Bs):aN (I ++ J) ++ r=aN I ++ (aN J ++ r):=by rw [qZ,List.append_assoc]
theorem on_gh2 {I:Pcs}(h:abj I)(wild:Bool)(s:abd)(J:Pcs)(r:Bs):abf (aN (Pcs.on (acP wild s) I ++ J) ++ r):=by
 rw [text2];exact on_gh h wild s _
theorem sgn_np {c:UInt8}(h:dI c=false)(J:Pcs)(r:Bs):abg (aN (sgn [c] :: J) ++ r):=np_c h
theorem eq_in {x z:UInt8}(h:(x,z) ∈ ([(61,61),(60,61),(62,61),(46,46)]:List (UInt8 × UInt8))){I:Pcs}(d:abj I)(J:Pcs)(r:Bs):TkOk 4 [x] (aN (I ++ J) ++ r):=by
 rw [text2];obtain⟨c,f,e,h1,h2⟩:=d.ne [] (aN J ++ r);rw [e];refine eq_ok x z h c f ?_;simp only [List.mem_cons,Prod.mk.injEq,List.not_mem_nil,or_false] at h
 rcases h with ⟨_,rfl⟩ | ⟨_,rfl⟩ | ⟨_,rfl⟩ | ⟨_,rfl⟩ <;> assumption
theorem abj.append {I:Pcs}(h:abj I)(J:Pcs):abj (I ++ J):=by
 obtain⟨k,t,R,rfl,h⟩:=h;exact⟨k,t,R ++ J,rfl,h⟩
theorem sgn_si {c:UInt8}(h:c ≠ 61∧c ≠ 46)(J:Pcs):abj (sgn [c] :: J):=⟨_,_,_,rfl,c,[],rfl,h⟩
section
variable (wild:Bool) {E:abd→abb} (hE:∀ s,abe (E s).pc)
include hE
theorem not_good (b:Nat)(s:abd):abe (notG wild E b s).pc:=by
 refine some_good _ _ (fun r e=>?_);have h:=(hE s).on (gapG_ok wild (E s).st).1 r e;by_cases d:b % 2=0
 ·rw [if_pos d];exact acL acK (word_ok (by decide) (on_gh (hE s).start wild _ r).np) h
 ·rw [if_neg d];exact acT (by decide) acK h
theorem bin_good (b:Nat)(s:abd):abe (binG wild E b s).pc :=
 some_good _ _ (fun r d=>acR _ _ r ((hE s).good _ (pc_gh wild _ _ _ _ r).np) (acL (gapG_ok wild _).1 (op_ok (b % 13) (by omega) (on_gh (hE _).start wild _ r)) ((hE _).on (gapG_ok wild _).1 r d)))
theorem if_good (s:abd):abe (ifG wild E s).pc :=
 some_good _ _ (fun r d=>acL acK (word_ok (by decide) (on_gh2 (hE s).start wild _ _ r).np) (acR _ _ r ((hE s).on (gapG_ok wild _).1 _ (pc_gh wild _ _ _ _ r).np)
  (acL (gapG_ok wild _).1 (word_ok (by decide) (on_gh2 (hE _).start wild _ _ r).np) (acR _ _ r ((hE _).on (gapG_ok wild _).1 _ (pc_gh wild _ _ _ _ r).np)
   (acL (gapG_ok wild _).1 (word_ok (by decide) (on_gh (hE _).start wild _ r).np) ((hE _).on (gapG_ok wild _).1 r d))))))
theorem let_good {x:Bs}(e:wordB 1 x=true)(s:abd):abe (letG wild E x s).pc :=
 some_good _ _ (fun r d=>acL acK (word_ok (by decide) (pc_gh wild _ _ _ _ r).np) (acL (gapG_ok wild _).1 (word_ok e (pc_gh wild _ _ _ _ r).np) (acL (gapG_ok wild _).1 (eq_in (z:=61) (by decide) (hE s).start _ r)
  (acR _ _ r ((hE s).good _ (pc_gh wild _ _ _ _ r).np) (acL (gapG_ok wild _).1 (word_ok (by decide) (on_gh (hE _).start wild _ r).np) ((hE _).on (gapG_ok wild _).1 r d))))))
def LIv (r:aa'):Prop:=(r.ix=[]→r.pc=[])∧(r.ix ≠ []→abe r.pc)
omit hE in
theorem LIv.pi {r:aa'}(h:LIv r):abh r.pc:=by
 by_cases e:r.ix=[]
 ·rw [h.1 e];exact fun _ _=>trivial
 ·exact (h.2 e).good
theorem list_good:∀ (m:Nat) (r:aa'),LIv r→LIv (acU wild E m r)
 | 0,r,h=>h
 | m+1,r,h=>by
  rw [acU];split
  ·rename_i e
   refine list_good m _ ⟨fun h=>by simp at h,fun _=>?_⟩
   show abe (r.pc ++ (E r.st).pc)
   rw [h.1 e];exact hE _
  ·rename_i e
   refine list_good m _ ⟨fun h=>by simp at h,fun _=>⟨fun x d=>?_,(h.2 e).start.append _⟩⟩;exact acR _ _ x ((h.2 e).good _ (sgn_np (by decide) _ x)) (acT (by decide) acK ((hE _).on (gapG_ok wild _).1 x d))
omit hE in
theorem list_ne:∀ (m:Nat) (r:aa'),r.ix ≠ []→(acU wild E m r).ix ≠ []
 | 0,r,h=>h
 | m+1,r,h=>by
  rw [acU];split <;> exact list_ne m _ (by simp)
omit hE in
theorem list_ne1 (m:Nat)(r:aa'):(acU wild E (m+1) r).ix ≠ []:=by
 rw [acU];split <;> exact list_ne wild m _ (by simp)
theorem call_good {x:Bs}(e:wordB 1 x=true)(d:∃ c f,x=c :: f∧c ≠ 61∧c ≠ 46)(s:abd):abe (callG wild E x s).pc:=by
 have h:=list_good wild hE (s.nx % 4) ⟨[],[],s.tl⟩ ⟨fun _=>rfl,fun h=>absurd rfl h⟩
 refine⟨fun r g=>acL acK (word_ok e (sgn_np (by decide) _ r)) (acT (by decide) acK (acR _ _ r (h.pi _ (pc_gh wild _ _ _ _ r).np) (acT (by decide) (gapG_ok wild _).1 trivial))),_,_,_,rfl,d⟩
theorem field_good {x:Bs}(g:wordB 1 x=true)(f:∃ c d,x=c :: d∧c ≠ 61∧c ≠ 46)(s:abd):abe (fieldG wild E x s).pc:=by
 refine⟨fun r e=>acT (by decide) acK (acR _ _ r ((hE s).good _ (sgn_np (by decide) _ r)) (acT (by decide) acK (acL (gapG_ok wild _).1 ?_ (acL acK (word_ok g (by simpa [aN] using e)) trivial)))),sgn_si ⟨by decide,by decide⟩ _⟩
 obtain⟨c,d,rfl,h1,h2⟩:=f;exact eq_ok 46 46 (by decide) c _ h2
theorem index_good (s:abd):abe (indexG wild E s).pc :=
 ⟨fun r d=>acT (by decide) acK (acR _ _ r ((hE s).good _ (sgn_np (by decide) _ r)) (acT (by decide) acK (acT (by decide) acK (acR _ _ r ((hE _).good _ (pc_gh wild _ _ _ _ r).np) (acT (by decide) (gapG_ok wild _).1 trivial))))),sgn_si ⟨by decide,by decide⟩ _⟩
theorem array_good (s:abd):abe (arrayG wild E s).pc:=by
 have h:=list_good wild hE (1+s.nx % 4) ⟨[],[],s.tl⟩ ⟨fun _=>rfl,fun h=>absurd rfl h⟩;have d:(acU wild E (1+s.nx % 4) ⟨[],[],s.tl⟩).ix ≠ []:=by rw [Nat.add_comm];exact list_ne1 wild _ _
 exact⟨fun r e=>acT (by decide) acK (acR _ _ r ((h.2 d).on (gapG_ok wild _).1 _ (sgn_np (by decide) _ r)) (acT (by decide) acK trivial)),sgn_si ⟨by decide,by decide⟩ _⟩
theorem puts_good:∀ (m:Nat) (r:aa'),LIv r→LIv (putsG wild E m r)
 | 0,r,h=>h
 | m+1,r,h=>by
  rw [putsG];obtain⟨c,i,g,h1,h2⟩:=wordG_start (if r.ix=[] then r.st else acJ wild r.st).nx
  have d:abe (([],1,acM (if r.ix=[] then r.st else acJ wild r.st).nx) :: sgn [58] :: (E (if r.ix=[] then r.st else acJ wild r.st).tl).pc) :=
   ⟨fun x f=>acL acK (word_ok (wordG_ok _) (sgn_np (by decide) _ x)) (acT (by decide) acK ((hE _).good x f)),_,_,_,rfl,c,i,g,h1,h2⟩
  refine puts_good m _ ⟨fun h=>by simp at h,fun _=>?_⟩
  show abe (r.pc ++ _)
  by_cases e:r.ix=[]
  ·rw [if_pos e] at d ⊢;rw [h.1 e];simp only [e,if_true] at d ⊢;exact d
  ·rw [if_neg e] at d ⊢;simp only [e,if_false] at d ⊢
   exact⟨fun x f=>acR _ _ x ((h.2 e).good _ (pc_gh wild _ _ _ _ x).np) (acT (by decide) (gapG_ok wild _).1 (d.good x f)),(h.2 e).start.append _⟩
theorem rec_good {x:Bs}(e:wordB 1 x=true)(d:∃ c f,x=c :: f∧c ≠ 61∧c ≠ 46)(b:Nat)(s:abd):abe (recG wild E x b s).pc:=by
 have h:=puts_good wild hE (1+b % 3) ⟨[],[],s⟩ ⟨fun _=>rfl,fun h=>absurd rfl h⟩;exact⟨fun r g=>acL acK (word_ok e (sgn_np (by decide) _ r)) (acT (by decide) acK (acR _ _ r (h.pi _ (pc_gh wild _ _ _ _ r).np) (acT (by decide) (gapG_ok wild _).1 trivial))),_,_,_,rfl,d⟩
theorem op_good (b:Nat)(s:abd):abe (opG wild E b s).pc:=by
 unfold opG;split
 ·exact not_good wild hE b s
 ·exact bin_good wild hE b s
theorem comp_good (b:Nat)(s:abd):abe (compG wild E b s).pc:=by
 unfold compG;simp only
 have d:=wordG_ok s.nx;have e:=wordG_start s.nx;split
 ·exact if_good wild hE _
 split
 ·exact let_good wild hE d _
 split
 ·exact call_good wild hE d e _
 split
 ·exact field_good wild hE d e _
 split
 ·exact index_good wild hE _
 split
 ·exact array_good wild hE _
 ·exact rec_good wild hE d e _ _
end
theorem expr_good (wild:Bool):∀ (d:Nat) (s:abd),abe (acN wild d s).pc
 | 0,s=>leaf_good _ (Nat.mod_lt _ (by decide)) _
 | d+1,s=>by
  rw [acN];split
  ·rename_i h;exact leaf_good _ h _
  split
  ·exact op_good wild (expr_good wild d) _ _
  ·exact comp_good wild (expr_good wild d) _ _
theorem typ_good (wild:Bool):∀ (d:Nat) (s:abd),abe (acQ wild d s).pc
 | 0,s=>by
  rw [acQ];obtain⟨c,g,f,h1,h2⟩:=wordG_start s.nx;split
  ·exact⟨fun r e=>acL acK (word_ok (by decide) (by simpa [aN] using e)) trivial,_,_,_,rfl,_,_,rfl,by decide,by decide⟩
  split
  ·exact⟨fun r e=>acL acK (word_ok (by decide) (by simpa [aN] using e)) trivial,_,_,_,rfl,_,_,rfl,by decide,by decide⟩
  ·exact⟨fun r e=>acL acK (word_ok (wordG_ok _) (by simpa [aN] using e)) trivial,_,_,_,rfl,c,g,f,h1,h2⟩
 | d+1,s=>by
  rw [acQ];obtain⟨c,g,f,h1,h2⟩:=wordG_start s.nx;split
  ·exact⟨fun r e=>acL acK (word_ok (by decide) (by simpa [aN] using e)) trivial,_,_,_,rfl,_,_,rfl,by decide,by decide⟩
  split
  ·exact⟨fun r e=>acL acK (word_ok (by decide) (by simpa [aN] using e)) trivial,_,_,_,rfl,_,_,rfl,by decide,by decide⟩
  split
  ·exact⟨fun r e=>acL acK (word_ok (wordG_ok _) (by simpa [aN] using e)) trivial,_,_,_,rfl,c,g,f,h1,h2⟩
  ·have h:=typ_good wild d s.tl;exact⟨fun r e=>acT (by decide) acK (acR _ _ r (h.good _ (pc_gh wild _ _ _ _ r).np) (acT (by decide) (gapG_ok wild _).1 (acL acK (num_ok (num_good _ (by omega)) (sgn_np (by decide) _ r)) (acT (by decide) acK trivial)))),sgn_si ⟨by decide,by decide⟩ _⟩
theorem params_good (wild:Bool):∀ (m:Nat) (r:aa'),LIv r→LIv (acO wild m r)
 | 0,r,h=>h
 | m+1,r,h=>by
  rw [acO];refine params_good wild m _ ⟨fun h=>by simp at h,fun _=>?_⟩
  show abe (r.pc ++ _)
  by_cases e:r.ix=[]
  ·obtain⟨c,i,g,h1,h2⟩:=wordG_start r.st.nx;simp only [e,if_true];rw [h.1 e];have d:=typ_good wild 2 r.st.tl;exact⟨fun x f=>acL acK (word_ok (wordG_ok _) (sgn_np (by decide) _ x)) (acT (by decide) acK (d.on (gapG_ok wild _).1 x f)),_,_,_,rfl,c,i,g,h1,h2⟩
  ·simp only [e,if_false];have d:=typ_good wild 2 (acJ wild r.st).tl;exact⟨fun x f=>acR _ _ x ((h.2 e).good _ (sgn_np (by decide) _ x)) (acT (by decide) acK (acL (gapG_ok wild _).1 (word_ok (wordG_ok _) (sgn_np (by decide) _ x)) (acT (by decide) acK (d.on (gapG_ok wild _).1 x f)))),(h.2 e).start.append _⟩
theorem li0 (s:abd):LIv ⟨[],[],s⟩:=⟨fun _=>rfl,fun h=>absurd rfl h⟩
theorem gh_32 (r:Bs):abf (32 :: r):=⟨32,r,rfl,.inl rfl⟩
theorem word_si {k:Nat}{c:UInt8}{t:Bs}(h:c ≠ 61∧c ≠ 46)(J:Pcs):abj (([],k,c :: t) :: J):=⟨_,_,_,rfl,c,t,rfl,h⟩
theorem on_np32 {I:Pcs}(h:abj I)(r:Bs):abg (aN (Pcs.on [32] I) ++ r):=by rw [h.text];exact (gh_32 _).np
theorem item0_good (wild:Bool)(s:abd):(∀ r,abf r→GoodR (itemG0 wild s).pc r)∧abj (itemG0 wild s).pc:=by
 unfold itemG0;simp only
 have i:=wordG_ok s.tl.nx;obtain⟨S,T,N,J,M⟩:=wordG_start s.tl.nx;split
 ·
  refine⟨fun r d=>?_,word_si ⟨by decide,by decide⟩ _⟩
  obtain⟨y,A⟩:=numPc_good (((s.tl.tl.nx % 30:Nat):Int) - 15) (by omega) (by omega);obtain⟨c1,c2⟩:=numPc_good ((((s.tl.tl.nx % 30:Nat):Int) - 15)+(((numberG (((s.tl.tl.nx % 30:Nat):Int) - 15) s.tl.tl.tl).st.nx % 12:Nat):Int)) (by omega) (by omega)
  exact acL acK (word_ok (by decide) (gh_32 _).np) (acL gapB_32 (word_ok i (sgn_np (by decide) _ r)) (acT (by decide) acK (acR _ _ r ((abe.mk y A).on (gapG_ok wild _).1 _ (pc_gh wild _ _ _ _ r).np)
   (acL (gapG_ok wild _).1 (two_ok 46 46 (by decide) _) ((abe.mk c1 c2).on (gapG_ok wild _).1 r d.np)))))
 split
 ·
  refine⟨fun r d=>?_,word_si ⟨by decide,by decide⟩ _⟩
  have h:=params_good wild (1+s.tl.tl.nx % 6) ⟨[],[],s.tl.tl.tl⟩ (li0 _);exact acL acK (word_ok (by decide) (gh_32 _).np) (acL gapB_32 (word_ok i (sgn_np (by decide) _ r)) (acL acK (eq_ok 61 61 (by decide) 123 _ (by decide)) (acT (by decide) acK (acR _ _ r (h.pi _ (sgn_np (by decide) _ r)) (acT (by decide) acK trivial)))))
 split
 ·
  refine⟨fun r d=>?_,word_si ⟨by decide,by decide⟩ _⟩
  have h:=params_good wild (s.tl.tl.nx % 5) ⟨[],[],s.tl.tl.tl⟩ (li0 _);have F:=typ_good wild 2 (acO wild (s.tl.tl.nx % 5) ⟨[],[],s.tl.tl.tl⟩).st;unfold funG;simp only
  generalize acO wild (s.tl.tl.nx % 5) ⟨[],[],s.tl.tl.tl⟩=R at *
  generalize acQ wild 2 R.st=K at *
  obtain⟨n,v⟩:∃ n,n=uptoN K.st:=⟨_,rfl⟩;have t:n < 140:=by rw [v];unfold uptoN;split <;> omega
  rw [← v]
  generalize H:(if 0 < n then acJ wild K.st.tl else K.st.tl)=w
  have g:=expr_good wild 4 w
  generalize acN wild 4 w=B at *
  have f:GoodR ((acP wild (acJ wild (acJ wild B.st)),4,[61]) :: B.pc) r:=acL (gapG_ok wild _).1 (by have:=eq_in (x:=61) (z:=61) (by decide) g.start [] r;rwa [List.append_nil] at this) (g.good r d.np)
  have I:GoodR ((if 0 < n then [(([32]:Bs),3,([117,112,116,111]:Bs)),(acP wild K.st.tl,2,Go.Lib.itoa (n:Int))] else []) ++ (acP wild (acJ wild (acJ wild B.st)),4,[61]) :: B.pc) r:=by
   split
   ·exact acL gapB_32 (word_ok (by decide) (pc_gh wild _ _ _ _ r).np) (acL (gapG_ok wild _).1 (num_ok (num_good n t) (pc_gh wild _ _ _ _ r).np) f)
   ·exact f
  have u:abg (aN ((if 0 < n then [(([32]:Bs),3,([117,112,116,111]:Bs)),(acP wild K.st.tl,2,Go.Lib.itoa (n:Int))] else []) ++ (acP wild (acJ wild (acJ wild B.st)),4,[61]) :: B.pc) ++ r):=by
   split
   ·exact (gh_32 _).np
   ·exact (pc_gh wild _ _ _ _ r).np
  exact acL acK (word_ok (by decide) (pc_gh wild _ _ _ _ r).np) (acL (gapG_ok wild _).1 (word_ok i (sgn_np (by decide) _ r)) (acT (by decide) acK (acR _ _ r (h.pi _ (sgn_np (by decide) _ r)) (acT (by decide) acK
   (acT (by decide) (gapG_ok wild _).1 (acR _ _ r (F.good _ u) I))))))
 split
 ·
  refine⟨fun r d=>?_,word_si ⟨by decide,by decide⟩ _⟩
  have g:=expr_good wild 4 s.tl.tl
  have D:TkOk 4 [61] (aN (Pcs.on (acP wild (acN wild 4 s.tl.tl).st) (acN wild 4 s.tl.tl).pc) ++ r):=by
   obtain⟨c,P,e,C⟩:=on_gh g.start wild (acN wild 4 s.tl.tl).st r;rw [e];exact eq_ok 61 61 (by decide) c P (by rcases C with rfl | rfl <;> decide)
  exact acL acK (word_ok (by decide) (gh_32 _).np) (acL gapB_32 (word_ok i (sgn_np (by decide) _ r)) (acL acK D (g.on (gapG_ok wild _).1 r d.np)))
 split
 ·
  refine⟨fun r d=>?_,word_si ⟨by decide,by decide⟩ _⟩
  have g:=expr_good wild 4 s.tl.tl;exact acL acK (word_ok (by decide) (gh_32 _).np) (acL gapB_32 (word_ok i (pc_gh wild _ _ _ _ r).np) (acT (by decide) (gapG_ok wild _).1 (g.good r d.np)))
 split
 ·
  exact⟨fun r d=>acL acK (word_ok (by decide) (pc_gh wild _ _ _ _ r).np) (acL (gapG_ok wild _).1 (word_ok i (by simpa [aN] using d.np)) trivial),word_si ⟨by decide,by decide⟩ _⟩
 ·
  refine⟨fun r d=>?_,word_si ⟨by decide,by decide⟩ _⟩
  unfold askG;simp only
  have G:wordB 3 (sg queriesG (1+s.tl.tl.nx % 8))=true:=by
   have:∀ q:Fin 8,wordB 3 (sg queriesG (1+q.val))=true:=by decide +kernel
   exact this ⟨s.tl.tl.nx % 8,by omega⟩
  generalize 1+s.tl.tl.nx % 8=q at *
  generalize Q:(if q=7 then 0 else if q=8 then 1+s.tl.tl.tl.nx % 4 else 1)=m
  generalize (if q=8 then s.tl.tl.tl.tl else s.tl.tl.tl)=s3
  have j:=list_good wild (expr_good wild 3) m ⟨[],[],s3⟩ (li0 _)
  generalize acU wild (acN wild 3) m ⟨[],[],s3⟩=L at *
  have h2:GoodR (Pcs.on [32] L.pc) r∧abg (aN (Pcs.on [32] L.pc) ++ r):=by
   by_cases e:L.ix=[]
   ·rw [j.1 e];exact⟨trivial,d.np⟩
   ·exact⟨(j.2 e).on gapB_32 r d.np,on_np32 (j.2 e).start r⟩
  exact acL acK (word_ok (by decide) (pc_gh wild _ _ _ _ r).np) (acL (gapG_ok wild _).1 (word_ok G h2.2) h2.1)
theorem item_good (wild:Bool)(s:abd):(∀ r,GoodR (itemG wild s).pc r)∧abj (itemG wild s).pc:=by
 obtain⟨h1,h2⟩:=item0_good wild s
 have d:GapB (trailG s)∧(trailG s=[]∨trailG s=[32]):=by
  unfold trailG;split
  ·exact⟨gapB_32,.inr rfl⟩
  ·exact⟨acK,.inl rfl⟩
 refine⟨fun r=>acR _ _ r (h1 _ ?_) (acT (by decide) (d.1.append (gapG_ok wild _).1) trivial),h2.append _⟩
 show abf (((trailG s ++ acP wild _) ++ ([59] ++ [])) ++ r)
 rw [List.append_assoc,List.append_assoc];rcases d.2 with e | e
 ·rw [e];exact gapG_gh wild _ _
 ·rw [e];exact gh_32 _
def GIv (r:aa'):Prop:=(∀ x,GoodR r.pc x)∧(r.ix=[]→r.pc=[])
theorem grow_good (wild:Bool):∀ (m:Nat) (r:aa'),GIv r→GIv (growG wild m r)
 | 0,r,h=>h
 | m+1,r,h=>by
  rw [growG];split
  ·exact h
  ·obtain⟨h1,h2⟩:=item_good wild r.st;refine grow_good wild m _ ⟨fun x=>?_,fun h=>by simp at h⟩
   show GoodR (r.pc ++ _) x
   by_cases e:r.ix=[]
   ·rw [if_pos e,h.2 e];exact h1 x
   ·rw [if_neg e];refine acR _ _ x (h.1 _) ?_;obtain⟨k,t,R,f,_⟩:=h2;have d:=h1 x;rw [f] at d ⊢
    exact⟨by show GapB ([10] ++ []);exact gapB_10,d.2.1,d.2.2⟩
theorem grown_good (wild:Bool)(b:Bs)(r:Bs):GoodR (grown wild b).pc r:=(grow_good wild 12 ⟨[],[],⟨b,[]⟩⟩ ⟨fun _=>trivial,fun _=>rfl⟩).1 r
theorem pcs_len:∀ (I:Pcs) (E:Bs),GoodR I E→I.length≤((aN I).filter fun b=>!(b == 32) && !(b == 10)).length
 | [],_,_=>aaL _
 | (g,k,t) :: I,E,⟨_,h2,h3⟩=>by
  have j:=pcs_len I E h3
  show I.length+1≤((g ++ (t ++ aN I)).filter _).length
  rw [List.filter_append,List.filter_append,aaO,aaO]
  have:1≤(t.filter fun b=>!(b == 32) && !(b == 10)).length:=by
   have i:=h2.pos;have f:=h2.skip
   cases t with
   | nil=>simp at i
   | cons b t =>
    have d:pR b=false:=by
     cases h:pR b
     ·rfl
     ·exfalso
      have f:gK false (b :: (t ++ (aN I ++ E)))=0:=f;rw [gK,if_pos h] at f;omega
    have e:(!(b == 32) && !(b == 10))=true:=by
     unfold pR at d;simp only [Bool.or_eq_false_iff] at d;rw [d.1,d.2];rfl
    rw [List.filter_cons_of_pos (p:=fun b=>!(b == 32) && !(b == 10)) e];simp
  omega
theorem grown_read (wild:Bool)(b:Bs)(h:grownOk (grownText wild b)=true):Mist.read (grownText wild b)=(fO 0 (grown wild b).pc,0,0)∧(grown wild b).pc.length≤800:=by
 unfold grownOk at h
 rw [aaS,decide_eq_true_eq,decide_eq_true_eq] at h
 obtain⟨h1,h2⟩:=h;have f:=pcs_len (grown wild b).pc [] (grown_good wild b [])
 have d:(grown wild b).pc.length≤800:=by
  unfold grownText at h2
  rw [List.filter_append,aaO] at h2
  omega
 refine⟨?_,d⟩
 unfold grownText at h1 ⊢
 split
 ·rename_i e
  rw [if_pos e] at h1
  exact read_good_pcs _ [] (grown_good wild b _) rfl rfl d h1
 ·rename_i e
  rw [if_neg e] at h1
  exact read_good_pcs _ [10] (grown_good wild b _) (by decide) (by decide) d h1
end Mist
namespace Mist
def abk (r r':Option j6):Prop:=∀ x,r=some x→r'=some x
theorem abk.refl (r:Option j6):abk r r:=fun _ h=>h
theorem abk.none (r:Option j6):abk none r:=fun _ h=>by cases h
theorem abk.thn {r g:Option j6}{f d:List Int→Nat→List Nd→Option j6}(h:abk r g)(i:∀ a k ns,abk (f a k ns) (d a k ns)):abk (Mist.thn r f) (Mist.thn g d):=by
 intro x e
 cases r with
 | none=>cases e
 | some y =>
  rw [h y rfl]
  cases y with
  | bad k=>exact e
  | ok a k ns=>exact i a k ns x e
theorem abk.ite {c:Prop}[Decidable c]{a d b e:Option j6}(h1:abk a d)(h2:abk b e):abk (if c then a else b) (if c then d else e):=by
 split
 ·exact h1
 ·exact h2
section
variable {l:List Tok} {en:Int}
theorem abk.need {s:Bs}{k:Nat}{f d:Option j6}(h:abk f d):abk (Mist.need l s k f) (Mist.need l s k d):=by
 unfold Mist.need;exact abk.ite h (abk.refl _)
theorem abk.bI {c k:Nat}{f d:Option j6}(h:abk f d):abk (Mist.bI l c k f) (Mist.bI l c k d):=by
 unfold Mist.bI;exact abk.ite h (abk.refl _)
theorem run_le:∀ (n:Nat) (j:Job) (k:Nat) (ns:List Nd),abk (run l en n j k ns) (run l en (n+1) j k ns)
 | 0,j,k,ns=>by rw [run];exact abk.none _
 | n+1,j,k,ns=>by
  have d:=run_le n
  match j with
  | .expr=>rw [run,run];repeat (first | exact d _ _ _ | exact abk.refl _ | refine abk.thn ?_ (fun _ _ _=>?_) | refine abk.need ?_ | refine abk.bI ?_ | refine abk.ite ?_ ?_)
  | .lv .not=>rw [run,run];repeat (first | exact d _ _ _ | exact abk.refl _ | refine abk.thn ?_ (fun _ _ _=>?_) | refine abk.need ?_ | refine abk.bI ?_ | refine abk.ite ?_ ?_)
  | .lv .unary=>rw [run,run];repeat (first | exact d _ _ _ | exact abk.refl _ | refine abk.thn ?_ (fun _ _ _=>?_) | refine abk.need ?_ | refine abk.bI ?_ | refine abk.ite ?_ ?_)
  | .lv .or=>rw [run,run] <;> first|(intro e;cases e;done)|(repeat (first | exact d _ _ _ | exact abk.refl _ | refine abk.thn ?_ (fun _ _ _=>?_)))
  | .lv .and=>rw [run,run] <;> first|(intro e;cases e;done)|(repeat (first | exact d _ _ _ | exact abk.refl _ | refine abk.thn ?_ (fun _ _ _=>?_)))
  | .lv .cmp=>rw [run,run] <;> first|(intro e;cases e;done)|(repeat (first | exact d _ _ _ | exact abk.refl _ | refine abk.thn ?_ (fun _ _ _=>?_)))
  | .lv .sum=>rw [run,run] <;> first|(intro e;cases e;done)|(repeat (first | exact d _ _ _ | exact abk.refl _ | refine abk.thn ?_ (fun _ _ _=>?_)))
  | .lv .term=>rw [run,run] <;> first|(intro e;cases e;done)|(repeat (first | exact d _ _ _ | exact abk.refl _ | refine abk.thn ?_ (fun _ _ _=>?_)))
  | .tail v a=>rw [run,run];repeat (first | exact d _ _ _ | exact abk.refl _ | refine abk.thn ?_ (fun _ _ _=>?_) | refine abk.need ?_ | refine abk.bI ?_ | refine abk.ite ?_ ?_)
  | .post=>rw [run,run];repeat (first | exact d _ _ _ | exact abk.refl _ | refine abk.thn ?_ (fun _ _ _=>?_) | refine abk.need ?_ | refine abk.bI ?_ | refine abk.ite ?_ ?_)
  | .iq a=>rw [run,run];repeat (first | exact d _ _ _ | exact abk.refl _ | refine abk.thn ?_ (fun _ _ _=>?_) | refine abk.need ?_ | refine abk.bI ?_ | refine abk.ite ?_ ?_)
  | .atom=>rw [run,run];repeat (first | exact d _ _ _ | exact abk.refl _ | refine abk.thn ?_ (fun _ _ _=>?_) | refine abk.need ?_ | refine abk.bI ?_ | refine abk.ite ?_ ?_)
  | .put=>rw [run,run];repeat (first | exact d _ _ _ | exact abk.refl _ | refine abk.thn ?_ (fun _ _ _=>?_) | refine abk.need ?_ | refine abk.bI ?_ | refine abk.ite ?_ ?_)
  | .param=>rw [run,run];repeat (first | exact d _ _ _ | exact abk.refl _ | refine abk.thn ?_ (fun _ _ _=>?_) | refine abk.need ?_ | refine abk.bI ?_ | refine abk.ite ?_ ?_)
  | .typ=>rw [run,run];repeat (first | exact d _ _ _ | exact abk.refl _ | refine abk.thn ?_ (fun _ _ _=>?_) | refine abk.need ?_ | refine abk.bI ?_ | refine abk.ite ?_ ?_)
  | .list e=>rw [run,run];repeat (first | exact d _ _ _ | exact abk.refl _ | refine abk.thn ?_ (fun _ _ _=>?_) | refine abk.need ?_ | refine abk.bI ?_ | refine abk.ite ?_ ?_)
  | .eu e f=>rw [run,run];repeat (first | exact d _ _ _ | exact abk.refl _ | refine abk.thn ?_ (fun _ _ _=>?_) | refine abk.need ?_ | refine abk.bI ?_ | refine abk.ite ?_ ?_)
theorem run_up {n m:Nat}{j:Job}{k:Nat}{ns:List Nd}{x:j6}(h:run l en n j k ns=some x)(d:n≤m):run l en m j k ns=some x:=by
 induction d with
 | refl=>exact h
 | step _ e=>exact run_le _ _ _ _ _ e
end
def Runs (l:List Tok)(en:Int)(j:Job)(k:Nat)(ns:List Nd)(a:List Int)(k':Nat)(ns':List Nd):Prop:=∃ n,run l en n j k ns=some (.ok a k' ns')
section
variable {l:List Tok} {en:Int} {k k1 k2 k3:Nat} {ns aJ fF uK:List Nd} {a b c:Int} {us:List Int}
theorem runs_num (h:(tg l k).kind=2):Runs l en .atom k ns [(ns.length:Int)] (k+1) (ns ++ [⟨1,[],numOf (tx l k),[],pl l en k⟩]) :=
 ⟨1,by rw [run,if_pos h];rfl⟩
theorem runs_true (h0:(tg l k).kind=3)(h:tx l k=[116,114,117,101]):Runs l en .atom k ns [(ns.length:Int)] (k+1) (ns ++ [⟨2,[],1,[],pl l en k⟩]) :=
 ⟨1,by rw [run,if_neg (by rw [h0];decide),if_pos h];rfl⟩
theorem runs_false (h0:(tg l k).kind=3)(h:tx l k=[102,97,108,115,101]):Runs l en .atom k ns [(ns.length:Int)] (k+1) (ns ++ [⟨2,[],0,[],pl l en k⟩]) :=
 ⟨1,by rw [run,if_neg (by rw [h0];decide),if_neg (by rw [h];decide),if_pos h];rfl⟩
theorem runs_paren (h0:(tg l k).kind=4)(h:tx l k=[40])(d:Runs l en .expr (k+1) ns [a] k1 aJ)(h1:tx l k1=[41]):Runs l en .atom k ns [a] (k1+1) aJ:=by
 obtain⟨n,e⟩:=d
 exact⟨n+1,by
  rw [run,if_neg (by rw [h0];decide),if_neg (by rw [h];decide),if_neg (by rw [h];decide),if_pos h,e]
  show need l [41] k1 _=_
  rw [need,if_pos h1];rfl⟩
theorem runs_array (h0:(tg l k).kind=4)(h:tx l k=[91])(d:Runs l en (.list .expr) (k+1) ns us k1 aJ)(h1:tx l k1=[93]):Runs l en .atom k ns [(aJ.length:Int)] (k1+1) (aJ ++ [⟨26,[],0,us,pl l en k⟩]):=by
 obtain⟨n,e⟩:=d
 exact⟨n+1,by
  rw [run,if_neg (by rw [h0];decide),if_neg (by rw [h];decide),if_neg (by rw [h];decide),if_neg (by rw [h];decide),if_pos h,e]
  show need l [93] k1 _=_
  rw [need,if_pos h1];rfl⟩
structure Named (l:List Tok) (k:Nat):Prop where
 kind:(tg l k).kind=1
 ne:tx l k ≠ [116,114,117,101]∧tx l k ≠ [102,97,108,115,101]∧tx l k ≠ [40]∧tx l k ≠ [91]
theorem runs_name (h:Named l k)(h1:tx l (k+1) ≠ [40])(h2:tx l (k+1) ≠ [123]):Runs l en .atom k ns [(ns.length:Int)] (k+1) (ns ++ [⟨3,tx l k,0,[],pl l en k⟩]) :=
 ⟨1,by
  rw [run,if_neg (by rw [h.kind];decide),if_neg h.ne.1,if_neg h.ne.2.1,if_neg h.ne.2.2.1,if_neg h.ne.2.2.2]
  show bI l 1 k _=_
  unfold bI;rw [if_pos h.kind,if_neg h1,if_neg h2];rfl⟩
theorem runs_call0 (h:Named l k)(h1:tx l (k+1)=[40])(h2:tx l (k+2)=[41]):Runs l en .atom k ns [(ns.length:Int)] (k+3) (ns ++ [⟨21,tx l k,0,[],pl l en k⟩]) :=
 ⟨1,by
  rw [run,if_neg (by rw [h.kind];decide),if_neg h.ne.1,if_neg h.ne.2.1,if_neg h.ne.2.2.1,if_neg h.ne.2.2.2]
  show bI l 1 k _=_
  unfold bI;rw [if_pos h.kind,if_pos h1,if_pos h2];rfl⟩
theorem runs_call (h:Named l k)(h1:tx l (k+1)=[40])(h2:tx l (k+2) ≠ [41])(d:Runs l en (.list .expr) (k+2) ns us k1 aJ)(h3:tx l k1=[41]):Runs l en .atom k ns [(aJ.length:Int)] (k1+1) (aJ ++ [⟨21,tx l k,0,us,pl l en k⟩]):=by
 obtain⟨n,e⟩:=d
 exact⟨n+1,by
  rw [run,if_neg (by rw [h.kind];decide),if_neg h.ne.1,if_neg h.ne.2.1,if_neg h.ne.2.2.1,if_neg h.ne.2.2.2]
  show bI l 1 k _=_
  unfold bI;rw [if_pos h.kind,if_pos h1,if_neg h2,e]
  show need l [41] k1 _=_
  rw [need,if_pos h3];rfl⟩
theorem runs_rec (h:Named l k)(h1:tx l (k+1)=[123])(d:Runs l en (.list .put) (k+2) ns us k1 aJ)(h3:tx l k1=[125]):Runs l en .atom k ns [(aJ.length:Int)] (k1+1) (aJ ++ [⟨24,tx l k,0,us,pl l en k⟩]):=by
 obtain⟨n,e⟩:=d
 exact⟨n+1,by
  rw [run,if_neg (by rw [h.kind];decide),if_neg h.ne.1,if_neg h.ne.2.1,if_neg h.ne.2.2.1,if_neg h.ne.2.2.2]
  show bI l 1 k _=_
  unfold bI;rw [if_pos h.kind,if_neg (by rw [h1];decide),if_pos h1,e]
  show need l [125] k1 _=_
  rw [need,if_pos h3];rfl⟩
theorem runs_post (h:Runs l en .atom k ns [a] k1 aJ)(h2:Runs l en (.iq a) k1 aJ [b] k2 fF):Runs l en .post k ns [b] k2 fF:=by
 obtain⟨n,e⟩:=h;obtain⟨m,d⟩:=h2
 exact⟨max n m+1,by
  rw [run,run_up e (Nat.le_max_left n m)]
  show run l en (max n m) (.iq a) k1 aJ=_
  exact run_up d (Nat.le_max_right n m)⟩
theorem runs_stop (h1:tx l k ≠ [46])(h2:tx l k ≠ [91]):Runs l en (.iq a) k ns [a] k ns:=⟨1,by rw [run,if_neg h1,if_neg h2]⟩
theorem runs_field (h1:tx l k=[46])(h2:(tg l (k+1)).kind=1)(h3:Runs l en (.iq (ns.length:Int)) (k+2) (ns ++ [⟨22,tx l (k+1),0,[a],pl l en k⟩]) [b] k2 fF):Runs l en (.iq a) k ns [b] k2 fF:=by
 obtain⟨n,d⟩:=h3
 exact⟨n+1,by
  rw [run,if_pos h1]
  show bI l 1 (k+1) _=_
  unfold bI;rw [if_pos h2];exact d⟩
theorem runs_index (h1:tx l k=[91])(d:Runs l en .expr (k+1) ns [b] k1 aJ)(h2:tx l k1=[93])(h3:Runs l en (.iq (aJ.length:Int)) (k1+1) (aJ ++ [⟨23,[],0,[a,b],pl l en k⟩]) [c] k2 fF):Runs l en (.iq a) k ns [c] k2 fF:=by
 obtain⟨n,f⟩:=d;obtain⟨m,e⟩:=h3
 exact⟨max n m+1,by
  rw [run,if_neg (by rw [h1];decide),if_pos h1,run_up f (Nat.le_max_left n m)]
  show need l [93] k1 _=_
  rw [need,if_pos h2];exact run_up e (Nat.le_max_right n m)⟩
theorem runs_list {e:El}(h:Runs l en e.job k ns [a] k1 aJ)(h2:Runs l en (.eu e [a]) k1 aJ us k2 fF):Runs l en (.list e) k ns us k2 fF:=by
 obtain⟨n,f⟩:=h;obtain⟨m,d⟩:=h2
 exact⟨max n m+1,by
  rw [run,run_up f (Nat.le_max_left n m)];exact run_up d (Nat.le_max_right n m)⟩
theorem runs_listS {e:El}{d:List Int}(h1:tx l k ≠ [44]):Runs l en (.eu e d) k ns d k ns:=⟨1,by rw [run,if_neg h1]⟩
theorem runs_listT {e:El}{d:List Int}(h1:tx l k=[44])(h:Runs l en e.job (k+1) ns [a] k1 aJ)(h2:Runs l en (.eu e (d ++ [a])) k1 aJ us k2 fF):Runs l en (.eu e d) k ns us k2 fF:=by
 obtain⟨n,g⟩:=h;obtain⟨m,f⟩:=h2
 exact⟨max n m+1,by
  rw [run,if_pos h1,run_up g (Nat.le_max_left n m)];exact run_up f (Nat.le_max_right n m)⟩
theorem runs_unary (h0:tx l k ≠ [45])(h:Runs l en .post k ns [a] k1 aJ):Runs l en (.lv .unary) k ns [a] k1 aJ:=by
 obtain⟨n,d⟩:=h;exact⟨n+1,by rw [run,if_neg h0];exact d⟩
theorem runs_neg (h0:tx l k=[45])(h:Runs l en (.lv .unary) (k+1) ns [a] k1 aJ):Runs l en (.lv .unary) k ns [(aJ.length:Int)] k1 (aJ ++ [⟨4,[],0,[a],pl l en k⟩]):=by
 obtain⟨n,d⟩:=h;exact⟨n+1,by rw [run,if_pos h0,d];rfl⟩
theorem runs_notS (h0:tx l k ≠ [110,111,116])(h:Runs l en (.lv .cmp) k ns [a] k1 aJ):Runs l en (.lv .not) k ns [a] k1 aJ:=by
 obtain⟨n,d⟩:=h;exact⟨n+1,by rw [run,if_neg h0];exact d⟩
theorem runs_not (h0:tx l k=[110,111,116])(h:Runs l en (.lv .not) (k+1) ns [a] k1 aJ):Runs l en (.lv .not) k ns [(aJ.length:Int)] k1 (aJ ++ [⟨5,[],0,[a],pl l en k⟩]):=by
 obtain⟨n,d⟩:=h;exact⟨n+1,by rw [run,if_pos h0,d];rfl⟩
theorem runs_lv {v:Lv}(hv:v ≠ .not∧v ≠ .unary)(h:Runs l en (.lv v.below) k ns [a] k1 aJ)(h2:Runs l en (.tail v a) k1 aJ [b] k2 fF):Runs l en (.lv v) k ns [b] k2 fF:=by
 obtain⟨n,f⟩:=h;obtain⟨m,d⟩:=h2
 refine⟨max n m+1,?_⟩
 have h1:=run_up f (Nat.le_max_left n m);have h2:=run_up d (Nat.le_max_right n m)
 cases v with
 | not=>exact absurd rfl hv.1
 | unary=>exact absurd rfl hv.2
 | or=>rw [run] <;> first|(show thn (run l en (max n m) (.lv .and) k ns) _=_;rw [show run l en (max n m) (.lv .and) k ns=_ from h1];exact h2)|(intro e;cases e)
 | and=>rw [run] <;> first|(show thn (run l en (max n m) (.lv .not) k ns) _=_;rw [show run l en (max n m) (.lv .not) k ns=_ from h1];exact h2)|(intro e;cases e)
 | cmp=>rw [run] <;> first|(show thn (run l en (max n m) (.lv .sum) k ns) _=_;rw [show run l en (max n m) (.lv .sum) k ns=_ from h1];exact h2)|(intro e;cases e)
 | sum=>rw [run] <;> first|(show thn (run l en (max n m) (.lv .term) k ns) _=_;rw [show run l en (max n m) (.lv .term) k ns=_ from h1];exact h2)|(intro e;cases e)
 | term=>rw [run] <;> first|(show thn (run l en (max n m) (.lv .unary) k ns) _=_;rw [show run l en (max n m) (.lv .unary) k ns=_ from h1];exact h2)|(intro e;cases e)
theorem runs_tailS {v:Lv}(h:fB v (tx l k)=0):Runs l en (.tail v a) k ns [a] k ns:=⟨1,by rw [run,if_pos h]⟩
theorem runs_tail {v:Lv}(h:fB v (tx l k) ≠ 0)(d:Runs l en (.lv v.below) (k+1) ns [b] k1 aJ)(h2:fB v (tx l k1)=0) :
  Runs l en (.tail v a) k ns [(aJ.length:Int)] k1 (aJ ++ [⟨fB v (tx l k),[],0,[a,b],pl l en k⟩]):=by
 obtain⟨n,e⟩:=d
 refine⟨max n 1+1,?_⟩
 rw [run,if_neg h,run_up e (Nat.le_max_left n 1)]
 show (if v=.cmp then some (j6.ok [(aJ.length:Int)] k1 _) else run l en (max n 1) (.tail v (aJ.length:Int)) k1 _)=_
 split
 ·rfl
 ·exact run_up (n:=1) (by rw [run,if_pos h2];rfl) (Nat.le_max_right n 1)
theorem runs_expr (h1:tx l k ≠ [105,102])(h2:tx l k ≠ [108,101,116])(h:Runs l en (.lv .or) k ns [a] k1 aJ):Runs l en .expr k ns [a] k1 aJ:=by
 obtain⟨n,d⟩:=h;exact⟨n+1,by rw [run,if_neg h1,if_neg h2];exact d⟩
theorem runs_if (h:tx l k=[105,102])(h1:Runs l en .expr (k+1) ns [a] k1 aJ)(g:tx l k1=[116,104,101,110])(h2:Runs l en .expr (k1+1) aJ [b] k2 fF)(i:tx l k2=[101,108,115,101])(h3:Runs l en .expr (k2+1) fF [c] k3 uK) :
  Runs l en .expr k ns [(uK.length:Int)] k3 (uK ++ [⟨19,[],0,[a,b,c],pl l en k⟩]):=by
 obtain⟨n,e⟩:=h1;obtain⟨m,d⟩:=h2;obtain⟨o,f⟩:=h3
 refine⟨max n (max m o)+1,?_⟩
 rw [run,if_pos h,run_up e (by omega)]
 show need l _ k1 (thn (run l en (max n (max m o)) .expr (k1+1) aJ) _)=_
 rw [need,if_pos g,run_up d (by omega)]
 show need l _ k2 (thn (run l en (max n (max m o)) .expr (k2+1) fF) _)=_
 rw [need,if_pos i,run_up f (by omega)];rfl
theorem runs_let (h:tx l k=[108,101,116])(e:(tg l (k+1)).kind=1)(d:tx l (k+2)=[61])(h1:Runs l en .expr (k+3) ns [a] k1 aJ)(i:tx l k1=[105,110])(h2:Runs l en .expr (k1+1) aJ [b] k2 fF) :
  Runs l en .expr k ns [(fF.length:Int)] k2 (fF ++ [⟨20,tx l (k+1),0,[a,b],pl l en k⟩]):=by
 obtain⟨n,g⟩:=h1;obtain⟨m,f⟩:=h2
 refine⟨max n m+1,?_⟩
 rw [run,if_neg (by rw [h];decide),if_pos h]
 show ite ((tg l (k+1)).kind=1) _ _=_
 rw [if_pos e]
 show ite (tx l (k+2)=[61]) _ _=_
 rw [if_pos d,run_up g (by omega)]
 show need l _ k1 (thn (run l en (max n m) .expr (k1+1) aJ) _)=_
 rw [need,if_pos i,run_up f (by omega)];rfl
theorem runs_put (d:(tg l k).kind=1)(h1:tx l (k+1)=[58])(h:Runs l en .expr (k+2) ns [a] k1 aJ):Runs l en .put k ns [(aJ.length:Int)] k1 (aJ ++ [⟨25,tx l k,0,[a],pl l en k⟩]):=by
 obtain⟨n,e⟩:=h
 refine⟨n+1,?_⟩
 rw [run]
 show ite ((tg l k).kind=1) _ _=_
 rw [if_pos d]
 show ite (tx l (k+1)=[58]) _ _=_
 rw [if_pos h1,e];rfl
theorem runs_param (d:(tg l k).kind=1)(h1:tx l (k+1)=[58])(h:Runs l en .typ (k+2) ns [a] k1 aJ):Runs l en .param k ns [(aJ.length:Int)] k1 (aJ ++ [⟨34,tx l k,0,[a],pl l en k⟩]):=by
 obtain⟨n,e⟩:=h
 refine⟨n+1,?_⟩
 rw [run]
 show ite ((tg l k).kind=1) _ _=_
 rw [if_pos d]
 show ite (tx l (k+1)=[58]) _ _=_
 rw [if_pos h1,e];rfl
theorem runs_int (h:tx l k=[105,110,116]):Runs l en .typ k ns [(ns.length:Int)] (k+1) (ns ++ [⟨30,[],0,[],pl l en k⟩]):=⟨1,by rw [run,if_pos h];rfl⟩
theorem runs_bool (h:tx l k=[98,111,111,108]):Runs l en .typ k ns [(ns.length:Int)] (k+1) (ns ++ [⟨31,[],0,[],pl l en k⟩]):=⟨1,by rw [run,if_neg (by rw [h];decide),if_pos h];rfl⟩
theorem runs_named (d:(tg l k).kind=1)(h1:tx l k ≠ [105,110,116])(h2:tx l k ≠ [98,111,111,108])(h3:tx l k ≠ [91]):Runs l en .typ k ns [(ns.length:Int)] (k+1) (ns ++ [⟨32,tx l k,0,[],pl l en k⟩]) :=
 ⟨1,by
  rw [run,if_neg h1,if_neg h2,if_neg h3]
  show ite ((tg l k).kind=1) _ _=_
  rw [if_pos d];rfl⟩
theorem runs_row (h:tx l k=[91])(h1:Runs l en .typ (k+1) ns [a] k1 aJ)(f:tx l k1=[59])(d:(tg l (k1+1)).kind=2)(g:tx l (k1+2)=[93]) :
  Runs l en .typ k ns [(aJ.length:Int)] (k1+3) (aJ ++ [⟨33,[],numOf (tx l (k1+1)),[a],pl l en k⟩]):=by
 obtain⟨n,e⟩:=h1
 refine⟨n+1,?_⟩
 rw [run,if_neg (by rw [h];decide),if_neg (by rw [h];decide),if_pos h,e]
 show need l _ k1 _=_
 rw [need,if_pos f]
 show ite ((tg l (k1+1)).kind=2) _ _=_
 rw [if_pos d]
 show ite (tx l (k1+2)=[93]) _ _=_
 rw [if_pos g];rfl
end
end Mist
namespace Mist
def strip (x:Nd):Nd:=⟨x.kind,x.text,x.n,x.kids,0⟩
def AtP (l:List Tok)(p:Nat)(I:Pcs):Prop:=∀ i g k t,I[i]? = some (g,k,t)→(tg l (p+i)).kind=k∧tx l (p+i)=t
section
variable {l:List Tok} {p:Nat}
theorem AtP.left {I J:Pcs}(h:AtP l p (I ++ J)):AtP l p I:=fun i g k t e=>h i g k t (by rw [List.getElem?_append_left (aaE.1 e).1];exact e)
theorem AtP.right {I J:Pcs}(h:AtP l p (I ++ J)):AtP l (p+I.length) J:=fun i g k t e=>by
 have:=h (I.length+i) g k t (by rw [List.getElem?_append_right (by omega),Nat.add_sub_cancel_left];exact e)
 rwa [← Nat.add_assoc] at this
theorem AtP.head {g:Bs}{k:Nat}{t:Bs}{I:Pcs}(h:AtP l p ((g,k,t) :: I)):(tg l p).kind=k∧tx l p=t:=h 0 g k t rfl
theorem AtP.tail {x:Bs × Nat × Bs}{I:Pcs}(h:AtP l p (x :: I)):AtP l (p+1) I:=fun i g k t e=>by
 have:=h (i+1) g k t (by simpa using e)
 rwa [show p+(i+1)=p+1+i by omega] at this
theorem acS (g:Bs)(I:Pcs):(Pcs.on g I).length=I.length:=by cases I <;> rfl
theorem AtP.on {g:Bs}{I:Pcs}(h:AtP l p (Pcs.on g I)):AtP l p I:=fun i g' k t e=>by
 cases I with
 | nil=>simp at e
 | cons x I =>
  obtain⟨h0,k0,f⟩:=x
  cases i with
  | zero =>
   have e:(h0,k0,f)=(g',k,t):=by simpa using e
   injection e with m d;injection d with d j;subst d;subst j
   exact h 0 _ k0 f rfl
  | succ i=>exact h (i+1) g' k t (by show I[i]? = _;simpa using e)
end
def StopX (t:Bs):Prop:=t ≠ [46]∧t ≠ [91]∧t ≠ [40]∧t ≠ [123]
structure StopE (t:Bs):Prop where
 x:StopX t
 term:fB .term t=0
 sum:fB .sum t=0
 cmp:fB .cmp t=0
 and:fB .and t=0
 or:fB .or t=0
def stopB (t:Bs):Bool:=!(t == [46]) && !(t == [91]) && !(t == [40]) && !(t == [123]) && fB .term t == 0 && fB .sum t == 0 && fB .cmp t == 0 && fB .and t == 0 && fB .or t == 0
theorem stopE_of {t:Bs}(h:stopB t=true):StopE t:=by
 unfold stopB at h
 simp only [aaS,Bool.not_eq_true',aaF,beq_iff_eq] at h
 obtain⟨⟨⟨⟨⟨⟨⟨⟨h1,h2⟩,h3⟩,h4⟩,h5⟩,h6⟩,h7⟩,h8⟩,h9⟩:=h;exact⟨⟨h1,h2,h3,h4⟩,h5,h6,h7,h8,h9⟩
structure HdT (t:Bs):Prop where
 neg:t ≠ [45]
 not:t ≠ [110,111,116]
 if_:t ≠ [105,102]
 yB:t ≠ [108,101,116]
 shut:t ≠ [41]
def hdB (t:Bs):Bool:=!(t == [45]) && !(t == [110,111,116]) && !(t == [105,102]) && !(t == [108,101,116]) && !(t == [41])
theorem hdT_of {t:Bs}(h:hdB t=true):HdT t:=by
 unfold hdB at h
 simp only [aaS,Bool.not_eq_true',aaF] at h
 obtain⟨⟨⟨⟨h1,h2⟩,h3⟩,h4⟩,h5⟩:=h;exact⟨h1,h2,h3,h4,h5⟩
section
variable {l:List Tok} {en:Int} {k k1:Nat} {ns aJ:List Nd} {a:Int}
theorem up_term (h:Runs l en (.lv .unary) k ns [a] k1 aJ)(s:fB .term (tx l k1)=0):Runs l en (.lv .term) k ns [a] k1 aJ:=runs_lv ⟨by decide,by decide⟩ h (runs_tailS s)
theorem up_sum (h:Runs l en (.lv .term) k ns [a] k1 aJ)(s:fB .sum (tx l k1)=0):Runs l en (.lv .sum) k ns [a] k1 aJ:=runs_lv ⟨by decide,by decide⟩ h (runs_tailS s)
theorem up_cmp (h:Runs l en (.lv .sum) k ns [a] k1 aJ)(s:fB .cmp (tx l k1)=0):Runs l en (.lv .cmp) k ns [a] k1 aJ:=runs_lv ⟨by decide,by decide⟩ h (runs_tailS s)
theorem up_and (h:Runs l en (.lv .not) k ns [a] k1 aJ)(s:fB .and (tx l k1)=0):Runs l en (.lv .and) k ns [a] k1 aJ:=runs_lv ⟨by decide,by decide⟩ h (runs_tailS s)
theorem up_or (h:Runs l en (.lv .and) k ns [a] k1 aJ)(s:fB .or (tx l k1)=0):Runs l en (.lv .or) k ns [a] k1 aJ:=runs_lv ⟨by decide,by decide⟩ h (runs_tailS s)
theorem not_expr (hd:HdT (tx l k))(h:Runs l en (.lv .not) k ns [a] k1 aJ)(s:StopE (tx l k1)):Runs l en .expr k ns [a] k1 aJ:=runs_expr hd.if_ hd.yB (up_or (up_and h s.and) s.or)
theorem cmp_expr (hd:HdT (tx l k))(h:Runs l en (.lv .cmp) k ns [a] k1 aJ)(s:StopE (tx l k1)):Runs l en .expr k ns [a] k1 aJ:=not_expr hd (runs_notS hd.not h) s
theorem unary_cmp (h:Runs l en (.lv .unary) k ns [a] k1 aJ)(s:StopE (tx l k1)):Runs l en (.lv .cmp) k ns [a] k1 aJ:=up_cmp (up_sum (up_term h s.term) s.sum) s.cmp
theorem post_expr (hd:HdT (tx l k))(h:Runs l en .post k ns [a] k1 aJ)(s:StopE (tx l k1)):Runs l en .expr k ns [a] k1 aJ:=cmp_expr hd (unary_cmp (runs_unary hd.neg h) s) s
theorem atom_post (h:Runs l en .atom k ns [a] k1 aJ)(s:StopX (tx l k1)):Runs l en .post k ns [a] k1 aJ:=runs_post h (runs_stop s.1 s.2.1)
end
structure abm (s:abd) (r:abb) (new:List Nd):Prop where
 ns:r.st.ns=s.ns ++ new
 head:∃ g k t R,r.pc=(g,k,t) :: R∧HdT t
 run:∀ (l:List Tok) (en:Int) (p:Nat) (ns:List Nd),AtP l p r.pc→ns.length=s.ns.length→StopX (tx l (p+r.pc.length))→∃ new',new'.map strip=new∧Runs l en .post p ns [r.ix] (p+r.pc.length) (ns ++ new')
theorem abm.hd {s:abd}{r:abb}{new:List Nd}(h:abm s r new){l:List Tok}{p:Nat}(d:AtP l p r.pc):HdT (tx l p):=by
 obtain⟨g,k,t,R,e,f⟩:=h.head;rw [e] at d
 rw [d.head.2];exact f
theorem abm.expr {s:abd}{r:abb}{new:List Nd}(h:abm s r new){l:List Tok}{en:Int}{p:Nat}{ns:List Nd}(e:AtP l p r.pc)(g:ns.length=s.ns.length)(f:StopE (tx l (p+r.pc.length))) :
  ∃ d,d.map strip=new∧Runs l en .expr p ns [r.ix] (p+r.pc.length) (ns ++ d):=by
 obtain⟨d,h1,h2⟩:=h.run l en p ns e g f.x;exact⟨d,h1,post_expr (h.hd e) h2 f⟩
def abl (I:Pcs)(s:abd)(a:Int)(new:List Nd):Prop:=∀ (l:List Tok) (en:Int) (p:Nat) (ns:List Nd),AtP l p I→ns.length=s.ns.length→StopE (tx l (p+I.length))→∃ new',new'.map strip=new∧Runs l en .expr p ns [a] (p+I.length) (ns ++ new')
theorem stop_shut {t:Bs}(h:t=[41]):StopE t:=by rw [h];exact stopE_of (by decide)
theorem hd_open {t:Bs}(h:t=[40]):HdT t:=by rw [h];exact hdT_of (by decide)
theorem paren_post {I:Pcs}{s:abd}{a:Int}{new:List Nd}(h:abl I s a new){g:Bs}{l:List Tok}{en:Int}{p:Nat}{ns:List Nd}{J:Pcs}(e:AtP l p (sgn [40] :: I ++ (g,4,[41]) :: J))(j:ns.length=s.ns.length) :
  ∃ d,d.map strip=new∧Runs l en .atom p ns [a] (p+I.length+2) (ns ++ d):=by
 have h0:=e.head;have h1:AtP l (p+1) (I ++ (g,4,[41]) :: J):=e.tail;have h2:=h1.right.head;obtain⟨d,f,i⟩:=h l en (p+1) ns h1.left j (stop_shut h2.2)
 exact⟨d,f,by
  have:=runs_paren h0.1 h0.2 i h2.2
  rwa [show p+1+I.length+1=p+I.length+2 by omega] at this⟩
theorem acI (wild:Bool)(s:abd):(acJ wild s).ns=s.ns:=by unfold acJ abd.tl;split <;> rfl
theorem someS_ns (wild:Bool)(s:abd):(someS wild s).ns=s.ns:=by
 unfold someS;split
 ·split
  ·rw [acI];rfl
  ·rfl
 ·rfl
theorem some_post (wild:Bool){I:Pcs}{s i:abd}{a:Int}{new:List Nd}(h:abl I s a new){l:List Tok}{en:Int}{p:Nat}{ns:List Nd}(g:AtP l p (someP wild I i))(r:ns.length=s.ns.length)(f:StopX (tx l (p+(someP wild I i).length))) :
  ∃ d,d.map strip=new∧Runs l en .post p ns [a] (p+(someP wild I i).length) (ns ++ d):=by
 unfold someP at g f ⊢
 split
 ·rename_i e
  rw [if_pos e] at g f
  have h1:AtP l (p+1) (sgn [40] :: I ++ (acP wild i.tl,4,[41]) :: [sgn [41]]):=g.tail;have h0:=g.head;obtain⟨d,j,m⟩:=paren_post h (en:=en) h1 r;have q:p+(sgn [40] :: sgn [40] :: I ++ [(acP wild i.tl,4,[41]),sgn [41]]).length=p+1+I.length+2+1:=by simp;omega
  rw [q] at f ⊢
  have h3:tx l (p+1+I.length+2)=[41]:=by
   have h4:AtP l (p+1+1) (I ++ [(acP wild i.tl,4,[41]),sgn [41]]):=h1.tail
   have:=h4.right.tail.head.2
   rwa [show p+1+1+I.length+1=p+1+I.length+2 by omega] at this
  refine⟨d,j,atom_post (runs_paren h0.1 h0.2 (post_expr (hd_open h1.head.2) (atom_post m (stop_shut h3).x) (stop_shut h3)) h3) f⟩
 ·rename_i e
  rw [if_neg e] at g f
  have n:AtP l p (sgn [40] :: I ++ ([],4,[41]) :: []):=g;obtain⟨d,j,m⟩:=paren_post h (en:=en) n r;have q:p+(sgn [40] :: I ++ [sgn [41]]).length=p+I.length+2:=by simp;omega
  rw [q] at f ⊢
  exact⟨d,j,atom_post m f⟩
theorem some_head (wild:Bool)(I:Pcs)(s:abd):∃ g k t R,someP wild I s=(g,k,t) :: R∧HdT t:=by
 unfold someP;split <;> exact⟨_,_,_,_,rfl,hd_open rfl⟩
theorem some_ep (wild:Bool){I:Pcs}{s d:abd}{n:Nd}{new:List Nd}(h:abl I s d.id (new ++ [strip n]))(e:d.ns=s.ns ++ new)(j:strip n=n):abm s (acV (someP wild I d) (someS wild d) n) (new ++ [n]):=by
 refine⟨?_,some_head wild I d,fun l en p ns f i m=>?_⟩
 ·show (someS wild d).ns ++ [n]=_
  rw [someS_ns,e,List.append_assoc]
 ·have g:(acV (someP wild I d) (someS wild d) n).ix=d.id:=by show ((someS wild d).ns.length:Int)=_;rw [someS_ns];rfl
  rw [g,← j];exact some_post wild h f i m
def wnot:List Bs:=[[45],[110,111,116],[105,102],[108,101,116],[41],[116,114,117,101],[102,97,108,115,101],[40],[91],[105,110,116],[98,111,111,108],[46],[123]]
theorem words_not:∀ x ∈ wordsG,∀ y ∈ wnot,x ≠ y:=by decide
theorem wordG_mem (b:Nat):acM b ∈ wordsG:=sg_mem wordsG _ (by show b % 8 < 8;omega)
theorem word_named {l:List Tok}{p:Nat}{x:Bs}(d:x ∈ wordsG)(h:(tg l p).kind=1∧tx l p=x):Named l p :=
 ⟨h.1,by rw [h.2];exact⟨words_not x d _ (by decide),words_not x d _ (by decide),words_not x d _ (by decide),words_not x d _ (by decide)⟩⟩
theorem word_hd {x:Bs}(d:x ∈ wordsG):HdT x:=⟨words_not x d _ (by decide),words_not x d _ (by decide),words_not x d _ (by decide),words_not x d _ (by decide),words_not x d _ (by decide)⟩
theorem nums_of:∀ n:Fin 140,(numOf (Go.Lib.itoa ((n.val:Nat):Int)) == n.val && hdB (Go.Lib.itoa ((n.val:Nat):Int)))=true:=by decide +kernel
theorem num_of_itoa {n:Nat}(h:n < 140):numOf (Go.Lib.itoa (n:Int))=n∧HdT (Go.Lib.itoa (n:Int)):=by
 have h1:=nums_of ⟨n,h⟩;rw [aaS] at h1
 exact⟨eq_of_beq h1.1,hdT_of h1.2⟩
theorem leaf_ep (b:Nat)(g:b < 60)(s:abd):∃ new,abm s (leafG b s) new:=by
 unfold leafG;split
 ·rename_i h
  rw [numPc_nat];obtain⟨h1,h2⟩:=num_of_itoa (n:=b * 7) (by omega)
  refine⟨_,⟨rfl,⟨_,_,_,_,rfl,h2⟩,fun l en p ns e f d=>?_⟩⟩
  have h0:=e.head
  refine⟨[⟨1,[],numOf (tx l p),[],pl l en p⟩],by rw [h0.2,h1];rfl,?_⟩
  show Runs l en .post p ns [(s.ns.length:Int)] (p+1) _
  rw [← f];exact atom_post (runs_num h0.1) d
 ·split
  ·by_cases h2:b % 2=0
   ·rw [if_pos h2]
    refine⟨_,⟨rfl,⟨_,_,_,_,rfl,hdT_of (by decide)⟩,fun l en p ns e f d=>?_⟩⟩
    have h0:=e.head
    refine⟨[⟨2,[],0,[],pl l en p⟩],by rw [h2];rfl,?_⟩
    show Runs l en .post p ns [(s.ns.length:Int)] (p+1) _
    rw [← f];exact atom_post (runs_false h0.1 h0.2) d
   ·rw [if_neg h2]
    refine⟨_,⟨rfl,⟨_,_,_,_,rfl,hdT_of (by decide)⟩,fun l en p ns e f d=>?_⟩⟩
    have h0:=e.head
    refine⟨[⟨2,[],1,[],pl l en p⟩],by rw [show b % 2=1 by omega];rfl,?_⟩
    show Runs l en .post p ns [(s.ns.length:Int)] (p+1) _
    rw [← f];exact atom_post (runs_true h0.1 h0.2) d
  ·refine⟨_,⟨rfl,⟨_,_,_,_,rfl,word_hd (wordG_mem b)⟩,fun l en p ns e f d=>?_⟩⟩
   have h0:=e.head
   refine⟨[⟨3,tx l p,0,[],pl l en p⟩],by rw [h0.2];rfl,?_⟩
   show Runs l en .post p ns [(s.ns.length:Int)] (p+1) _
   rw [← f];exact atom_post (runs_name (word_named (wordG_mem b) h0) d.2.2.1 d.2.2.2) d
section
variable (wild:Bool) {E:abd→abb} (hE:∀ s,∃ new,abm s (E s) new)
include hE
theorem not_ep (b:Nat)(s:abd):∃ new,abm s (notG wild E b s) new:=by
 obtain⟨new,h⟩:=hE s
 refine⟨_,some_ep wild (s:=s) (new:=new) (n:=⟨if b % 2=0 then 5 else 4,[],0,[(E s).ix],0⟩) (fun l en p ns f q e=>?_) (by rw [acI,h.ns]) rfl⟩
 have h1:=f.tail.on;have g:p+((if b % 2=0 then (([]:Bs),3,([110,111,116]:Bs)) else sgn [45]) :: Pcs.on (acP wild (E s).st) (E s).pc).length=p+1+(E s).pc.length:=by rw [List.length_cons,acS];omega
 rw [g] at e ⊢
 obtain⟨d,j,m⟩:=h.run l en (p+1) ns h1 q e.x;have hd:=h.hd h1
 have O:(acJ wild (E s).st).id=((ns ++ d).length:Int):=by
  unfold abd.id;rw [acI,h.ns,aaO,aaO,q,← j,List.length_map]
 rw [O];by_cases i:b % 2=0
 ·rw [if_pos i] at f
  have h0:=f.head
  refine⟨d ++ [⟨5,[],0,[(E s).ix],pl l en p⟩],by rw [List.map_append,j,if_pos i];rfl,?_⟩
  rw [← List.append_assoc];exact runs_expr (by rw [h0.2];decide) (by rw [h0.2];decide) (up_or (up_and (runs_not h0.2 (runs_notS hd.not (unary_cmp (runs_unary hd.neg m) e))) e.and) e.or)
 ·rw [if_neg i] at f
  have h0:=f.head
  refine⟨d ++ [⟨4,[],0,[(E s).ix],pl l en p⟩],by rw [List.map_append,j,if_neg i];rfl,?_⟩
  rw [← List.append_assoc];exact runs_expr (by rw [h0.2];decide) (by rw [h0.2];decide) (up_or (up_and (runs_notS (by rw [h0.2];decide) (unary_cmp (runs_neg h0.2 (runs_unary hd.neg m)) e)) e.and) e.or)
theorem bin_ep (b:Nat)(s:abd):∃ new,abm s (binG wild E b s) new:=by
 obtain⟨new,h⟩:=hE s;obtain⟨D,h2⟩:=hE (E s).st
 refine⟨_,some_ep wild (s:=s) (new:=new ++ D) (n:=⟨6+b % 13,[],0,[(E s).ix,(E (E s).st).ix],0⟩) (fun l en p ns G I g=>?_) (by rw [acI,acI,h2.ns,h.ns,List.append_assoc]) rfl⟩
 obtain⟨k,R⟩:∃ k,k=b % 13:=⟨_,rfl⟩;have t:k < 13:=by omega
 rw [← R] at G g ⊢
 have M:=G.left;have m:=G.right.head;have N:=G.right.tail.on
 have A:p+((E s).pc ++ (acP wild (E (E s).st).st,opK k,sg opsG k) :: Pcs.on (acP wild (acJ wild (E (E s).st).st)) (E (E s).st).pc).length=p+(E s).pc.length+1+(E (E s).st).pc.length:=by
  rw [aaO,List.length_cons,acS];omega
 rw [A] at g ⊢
 have J:StopX (tx l (p+(E s).pc.length)):=by
  rw [m.2]
  have:∀ k:Fin 13,sg opsG k.val ≠ [46]∧sg opsG k.val ≠ [91]∧sg opsG k.val ≠ [40]∧sg opsG k.val ≠ [123]:=by decide
  exact this ⟨k,t⟩
 obtain⟨d,H,P⟩:=h.run l en p ns M I J;obtain⟨f,L,Q⟩:=h2.run l en (p+(E s).pc.length+1) (ns ++ d) N (by rw [aaO,I,h.ns,aaO,← H,List.length_map]) g.x;have hd:=h.hd M;have u:=h2.hd N
 have O:(acJ wild (acJ wild (E (E s).st).st)).id=((ns ++ d ++ f).length:Int):=by
  unfold abd.id;rw [acI,acI,h2.ns,h.ns];simp only [aaO,I,← H,← L,List.length_map]
 rw [O];have B:=runs_unary hd.neg P;have q:=runs_unary u.neg Q;have y:=unary_cmp q g
 refine⟨d ++ f ++ [⟨6+k,[],0,[(E s).ix,(E (E s).st).ix],pl l en (p+(E s).pc.length)⟩],by rw [List.map_append,List.map_append,H,L];rfl,?_⟩
 rw [← List.append_assoc,← List.append_assoc];have mk:∀ v:Lv,fB v (sg opsG k)=6+k→Runs l en (.tail v (E s).ix) (p+(E s).pc.length) (ns ++ d) [((ns ++ d ++ f).length:Int)] (p+(E s).pc.length+1+(E (E s).st).pc.length) (ns ++ d ++ f ++ [⟨fB v (tx l (p+(E s).pc.length)),[],0,[(E s).ix,(E (E s).st).ix],pl l en (p+(E s).pc.length)⟩])→Runs l en (.tail v (E s).ix) (p+(E s).pc.length) (ns ++ d) [((ns ++ d ++ f).length:Int)] (p+(E s).pc.length+1+(E (E s).st).pc.length) (ns ++ d ++ f ++ [⟨6+k,[],0,[(E s).ix,(E (E s).st).ix],pl l en (p+(E s).pc.length)⟩]):=fun v e r=>by rw [m.2,e] at r;exact r
 have j:∀ v:Lv,fB v (sg opsG k)=0→fB v (tx l (p+(E s).pc.length))=0:=fun v e=>by rw [m.2];exact e
 have C:∀ v:Lv,fB v (sg opsG k)=6+k→fB v (tx l (p+(E s).pc.length)) ≠ 0:=fun v e=>by rw [m.2,e];omega
 have c1:(k < 2∧fB .sum (sg opsG k)=6+k∧fB .term (sg opsG k)=0)∨(fB .term (sg opsG k)=6+k)∨(fB .cmp (sg opsG k)=6+k∧fB .sum (sg opsG k)=0∧fB .term (sg opsG k)=0) ∨
   (fB .and (sg opsG k)=6+k∧fB .cmp (sg opsG k)=0∧fB .sum (sg opsG k)=0∧fB .term (sg opsG k)=0)∨(fB .or (sg opsG k)=6+k∧fB .and (sg opsG k)=0∧fB .cmp (sg opsG k)=0∧fB .sum (sg opsG k)=0∧fB .term (sg opsG k)=0):=by
  have:∀ k:Fin 13,(k.val < 2∧fB .sum (sg opsG k.val)=6+k.val∧fB .term (sg opsG k.val)=0)∨(fB .term (sg opsG k.val)=6+k.val)∨(fB .cmp (sg opsG k.val)=6+k.val∧fB .sum (sg opsG k.val)=0∧fB .term (sg opsG k.val)=0) ∨
   (fB .and (sg opsG k.val)=6+k.val∧fB .cmp (sg opsG k.val)=0∧fB .sum (sg opsG k.val)=0∧fB .term (sg opsG k.val)=0)∨(fB .or (sg opsG k.val)=6+k.val∧fB .and (sg opsG k.val)=0∧fB .cmp (sg opsG k.val)=0∧fB .sum (sg opsG k.val)=0∧fB .term (sg opsG k.val)=0):=by decide
  exact this ⟨k,t⟩
 rcases c1 with ⟨_,i,w⟩ | i | ⟨i,w,F⟩ | ⟨i,w,F,K⟩ | ⟨i,w,F,K,S⟩
 ·exact cmp_expr hd (up_cmp (runs_lv ⟨by decide,by decide⟩ (up_term B (j _ w)) (mk .sum i (runs_tail (C _ i) (up_term q g.term) g.sum))) g.cmp) g
 ·exact cmp_expr hd (up_cmp (up_sum (runs_lv ⟨by decide,by decide⟩ B (mk .term i (runs_tail (C _ i) q g.term))) g.sum) g.cmp) g
 ·exact cmp_expr hd (runs_lv ⟨by decide,by decide⟩ (up_sum (up_term B (j _ F)) (j _ w)) (mk .cmp i (runs_tail (C _ i) (up_sum (up_term q g.term) g.sum) g.cmp))) g
 ·exact runs_expr hd.if_ hd.yB (up_or (runs_lv ⟨by decide,by decide⟩ (runs_notS hd.not (up_cmp (up_sum (up_term B (j _ K)) (j _ F)) (j _ w))) (mk .and i (runs_tail (C _ i) (runs_notS u.not y) g.and))) g.or)
 ·exact runs_expr hd.if_ hd.yB (runs_lv ⟨by decide,by decide⟩ (up_and (runs_notS hd.not (up_cmp (up_sum (up_term B (j _ S)) (j _ K)) (j _ F))) (j _ w)) (mk .or i (runs_tail (C _ i) (up_and (runs_notS u.not y) g.and) g.or)))
end
end Mist
