/-
  A part of the proof.
-/
import Derived.Test.YthepmkjggfijoaaGreatDoorSA
import Derived.Test.YthepmkjggfijoaaGreatDoorJ03
set_option linter.all false
set_option maxRecDepth 100000
namespace Mist
theorem pc_gh (wild:Bool)(s:abd)(k:Nat)(t:Bs)(J:Pcs)(r:Bs):abf (aN ((acM wild s,k,t) :: J) ++ r):=by
 show abf ((acM wild s ++ (t ++ aN J)) ++ r)
 rw [List.append_assoc];exact gapG_gh wild s _
theorem on_gh {I:Pcs}(h:abj I)(wild:Bool)(s:abd)(r:Bs):abf (aN (Pcs.on (acM wild s) I) ++ r):=by
 rw [h.text,List.append_assoc];exact gapG_gh wild s _
theorem text2 (I J:Pcs)(r:Bs):aN (I ++ J) ++ r=aN I ++ (aN J ++ r):=by rw [qZ,List.append_assoc]
theorem on_gh2 {I:Pcs}(h:abj I)(wild:Bool)(s:abd)(J:Pcs)(r:Bs):abf (aN (Pcs.on (acM wild s) I ++ J) ++ r):=by
 rw [text2];exact on_gh h wild s _
theorem sgn_np {c:UInt8}(h:dI c=false)(J:Pcs)(r:Bs):abg (aN (sgn [c] :: J) ++ r):=np_c h
theorem eq_in {x z:UInt8}(h:(x,z) ∈ ([(61,61),(60,61),(62,61),(46,46)]:List (UInt8 × UInt8))){I:Pcs}(hI:abj I)(J:Pcs)(r:Bs):TkOk 4 [x] (aN (I ++ J) ++ r):=by
 rw [text2];obtain⟨c,r',e,h1,h2⟩:=hI.ne [] (aN J ++ r);rw [e];refine eq_ok x z h c r' ?_;simp only [List.mem_cons,Prod.mk.injEq,List.not_mem_nil,or_false] at h
 rcases h with ⟨_,rfl⟩ | ⟨_,rfl⟩ | ⟨_,rfl⟩ | ⟨_,rfl⟩ <;> assumption
theorem abj.append {I:Pcs}(h:abj I)(J:Pcs):abj (I ++ J):=by
 obtain⟨k,t,R,rfl,h⟩:=h;exact⟨k,t,R ++ J,rfl,h⟩
theorem sgn_si {c:UInt8}(h:c ≠ 61∧c ≠ 46)(J:Pcs):abj (sgn [c] :: J):=⟨_,_,_,rfl,c,[],rfl,h⟩
section
variable (wild:Bool) {E:abd→abb} (hE:∀ s,abe (E s).pc)
include hE
theorem not_good (b:Nat)(s:abd):abe (notG wild E b s).pc:=by
 refine some_good _ _ (fun r hr=>?_);have h:=(hE s).on (acO wild (E s).st).1 r hr;by_cases hb:b % 2=0
 ·rw [if_pos hb];exact acF acE (acN (by decide) (on_gh (hE s).start wild _ r).np) h
 ·rw [if_neg hb];exact acK (by decide) acE h
theorem bin_good (b:Nat)(s:abd):abe (binG wild E b s).pc :=
 some_good _ _ (fun r hr=>acJ _ _ r ((hE s).good _ (pc_gh wild _ _ _ _ r).np) (acF (acO wild _).1 (op_ok (b % 13) (by omega) (on_gh (hE _).start wild _ r)) ((hE _).on (acO wild _).1 r hr)))
theorem if_good (s:abd):abe (ifG wild E s).pc :=
 some_good _ _ (fun r hr=>acF acE (acN (by decide) (on_gh2 (hE s).start wild _ _ r).np) (acJ _ _ r ((hE s).on (acO wild _).1 _ (pc_gh wild _ _ _ _ r).np)
  (acF (acO wild _).1 (acN (by decide) (on_gh2 (hE _).start wild _ _ r).np) (acJ _ _ r ((hE _).on (acO wild _).1 _ (pc_gh wild _ _ _ _ r).np)
   (acF (acO wild _).1 (acN (by decide) (on_gh (hE _).start wild _ r).np) ((hE _).on (acO wild _).1 r hr))))))
theorem let_good {x:Bs}(hx:wordB 1 x=true)(s:abd):abe (letG wild E x s).pc :=
 some_good _ _ (fun r hr=>acF acE (acN (by decide) (pc_gh wild _ _ _ _ r).np) (acF (acO wild _).1 (acN hx (pc_gh wild _ _ _ _ r).np) (acF (acO wild _).1 (eq_in (z:=61) (by decide) (hE s).start _ r)
  (acJ _ _ r ((hE s).good _ (pc_gh wild _ _ _ _ r).np) (acF (acO wild _).1 (acN (by decide) (on_gh (hE _).start wild _ r).np) ((hE _).on (acO wild _).1 r hr))))))
def LIv (r:aa'):Prop:=(r.ix=[]→r.pc=[])∧(r.ix ≠ []→abe r.pc)
omit hE in
theorem LIv.pi {r:aa'}(h:LIv r):abh r.pc:=by
 by_cases e:r.ix=[]
 ·rw [h.1 e];exact fun _ _=>trivial
 ·exact (h.2 e).good
theorem list_good:∀ (m:Nat) (r:aa'),LIv r→LIv (acS wild E m r)
 | 0,r,h=>h
 | m+1,r,h=>by
  rw [acS];split
  ·rename_i e
   refine list_good m _ ⟨fun h=>by simp at h,fun _=>?_⟩
   show abe (r.pc ++ (E r.st).pc)
   rw [h.1 e];exact hE _
  ·rename_i e
   refine list_good m _ ⟨fun h=>by simp at h,fun _=>⟨fun x hx=>?_,(h.2 e).start.append _⟩⟩;exact acJ _ _ x ((h.2 e).good _ (sgn_np (by decide) _ x)) (acK (by decide) acE ((hE _).on (acO wild _).1 x hx))
omit hE in
theorem list_ne:∀ (m:Nat) (r:aa'),r.ix ≠ []→(acS wild E m r).ix ≠ []
 | 0,r,h=>h
 | m+1,r,h=>by
  rw [acS];split <;> exact list_ne m _ (by simp)
omit hE in
theorem list_ne1 (m:Nat)(r:aa'):(acS wild E (m+1) r).ix ≠ []:=by
 rw [acS];split <;> exact list_ne wild m _ (by simp)
theorem call_good {x:Bs}(hx:wordB 1 x=true)(hs:∃ c t',x=c :: t'∧c ≠ 61∧c ≠ 46)(s:abd):abe (callG wild E x s).pc:=by
 have h:=list_good wild hE (s.nx % 4) ⟨[],[],s.tl⟩ ⟨fun _=>rfl,fun h=>absurd rfl h⟩
 refine⟨fun r hr=>acF acE (acN hx (sgn_np (by decide) _ r)) (acK (by decide) acE (acJ _ _ r (h.pi _ (pc_gh wild _ _ _ _ r).np) (acK (by decide) (acO wild _).1 trivial))),_,_,_,rfl,hs⟩
theorem field_good {x:Bs}(hx:wordB 1 x=true)(hs:∃ c t',x=c :: t'∧c ≠ 61∧c ≠ 46)(s:abd):abe (fieldG wild E x s).pc:=by
 refine⟨fun r hr=>acK (by decide) acE (acJ _ _ r ((hE s).good _ (sgn_np (by decide) _ r)) (acK (by decide) acE (acF (acO wild _).1 ?_ (acF acE (acN hx (by simpa [aN] using hr)) trivial)))),sgn_si ⟨by decide,by decide⟩ _⟩
 obtain⟨c,t',rfl,h1,h2⟩:=hs;exact eq_ok 46 46 (by decide) c _ h2
theorem index_good (s:abd):abe (indexG wild E s).pc :=
 ⟨fun r hr=>acK (by decide) acE (acJ _ _ r ((hE s).good _ (sgn_np (by decide) _ r)) (acK (by decide) acE (acK (by decide) acE (acJ _ _ r ((hE _).good _ (pc_gh wild _ _ _ _ r).np) (acK (by decide) (acO wild _).1 trivial))))),sgn_si ⟨by decide,by decide⟩ _⟩
theorem array_good (s:abd):abe (arrayG wild E s).pc:=by
 have h:=list_good wild hE (1+s.nx % 4) ⟨[],[],s.tl⟩ ⟨fun _=>rfl,fun h=>absurd rfl h⟩;have hn:(acS wild E (1+s.nx % 4) ⟨[],[],s.tl⟩).ix ≠ []:=by rw [Nat.add_comm];exact list_ne1 wild _ _
 exact⟨fun r hr=>acK (by decide) acE (acJ _ _ r ((h.2 hn).on (acO wild _).1 _ (sgn_np (by decide) _ r)) (acK (by decide) acE trivial)),sgn_si ⟨by decide,by decide⟩ _⟩
theorem puts_good:∀ (m:Nat) (r:aa'),LIv r→LIv (putsG wild E m r)
 | 0,r,h=>h
 | m+1,r,h=>by
  rw [putsG];obtain⟨c,t',hw,h1,h2⟩:=wordG_start (if r.ix=[] then r.st else acC wild r.st).nx
  have hI:abe (([],1,acH (if r.ix=[] then r.st else acC wild r.st).nx) :: sgn [58] :: (E (if r.ix=[] then r.st else acC wild r.st).tl).pc) :=
   ⟨fun x hx=>acF acE (acN (wordG_ok _) (sgn_np (by decide) _ x)) (acK (by decide) acE ((hE _).good x hx)),_,_,_,rfl,c,t',hw,h1,h2⟩
  refine puts_good m _ ⟨fun h=>by simp at h,fun _=>?_⟩
  show abe (r.pc ++ _)
  by_cases e:r.ix=[]
  ·rw [if_pos e] at hI ⊢;rw [h.1 e];simp only [e,if_true] at hI ⊢;exact hI
  ·rw [if_neg e] at hI ⊢;simp only [e,if_false] at hI ⊢
   exact⟨fun x hx=>acJ _ _ x ((h.2 e).good _ (pc_gh wild _ _ _ _ x).np) (acK (by decide) (acO wild _).1 (hI.good x hx)),(h.2 e).start.append _⟩
theorem rec_good {x:Bs}(hx:wordB 1 x=true)(hs:∃ c t',x=c :: t'∧c ≠ 61∧c ≠ 46)(b:Nat)(s:abd):abe (recG wild E x b s).pc:=by
 have h:=puts_good wild hE (1+b % 3) ⟨[],[],s⟩ ⟨fun _=>rfl,fun h=>absurd rfl h⟩;exact⟨fun r hr=>acF acE (acN hx (sgn_np (by decide) _ r)) (acK (by decide) acE (acJ _ _ r (h.pi _ (pc_gh wild _ _ _ _ r).np) (acK (by decide) (acO wild _).1 trivial))),_,_,_,rfl,hs⟩
theorem op_good (b:Nat)(s:abd):abe (opG wild E b s).pc:=by
 unfold opG;split
 ·exact not_good wild hE b s
 ·exact bin_good wild hE b s
theorem comp_good (b:Nat)(s:abd):abe (compG wild E b s).pc:=by
 unfold compG;simp only
 have hx:=wordG_ok s.nx;have hs:=wordG_start s.nx;split
 ·exact if_good wild hE _
 split
 ·exact let_good wild hE hx _
 split
 ·exact call_good wild hE hx hs _
 split
 ·exact field_good wild hE hx hs _
 split
 ·exact index_good wild hE _
 split
 ·exact array_good wild hE _
 ·exact rec_good wild hE hx hs _ _
end
theorem expr_good (wild:Bool):∀ (d:Nat) (s:abd),abe (acG wild d s).pc
 | 0,s=>leaf_good _ (Nat.mod_lt _ (by decide)) _
 | d+1,s=>by
  rw [acG];split
  ·rename_i h;exact leaf_good _ h _
  split
  ·exact op_good wild (expr_good wild d) _ _
  ·exact comp_good wild (expr_good wild d) _ _
theorem typ_good (wild:Bool):∀ (d:Nat) (s:abd),abe (acI wild d s).pc
 | 0,s=>by
  rw [acI];obtain⟨c,t',hw,h1,h2⟩:=wordG_start s.nx;split
  ·exact⟨fun r hr=>acF acE (acN (by decide) (by simpa [aN] using hr)) trivial,_,_,_,rfl,_,_,rfl,by decide,by decide⟩
  split
  ·exact⟨fun r hr=>acF acE (acN (by decide) (by simpa [aN] using hr)) trivial,_,_,_,rfl,_,_,rfl,by decide,by decide⟩
  ·exact⟨fun r hr=>acF acE (acN (wordG_ok _) (by simpa [aN] using hr)) trivial,_,_,_,rfl,c,t',hw,h1,h2⟩
 | d+1,s=>by
  rw [acI];obtain⟨c,t',hw,h1,h2⟩:=wordG_start s.nx;split
  ·exact⟨fun r hr=>acF acE (acN (by decide) (by simpa [aN] using hr)) trivial,_,_,_,rfl,_,_,rfl,by decide,by decide⟩
  split
  ·exact⟨fun r hr=>acF acE (acN (by decide) (by simpa [aN] using hr)) trivial,_,_,_,rfl,_,_,rfl,by decide,by decide⟩
  split
  ·exact⟨fun r hr=>acF acE (acN (wordG_ok _) (by simpa [aN] using hr)) trivial,_,_,_,rfl,c,t',hw,h1,h2⟩
  ·have h:=typ_good wild d s.tl;exact⟨fun r hr=>acK (by decide) acE (acJ _ _ r (h.good _ (pc_gh wild _ _ _ _ r).np) (acK (by decide) (acO wild _).1 (acF acE (num_ok (num_good _ (by omega)) (sgn_np (by decide) _ r)) (acK (by decide) acE trivial)))),sgn_si ⟨by decide,by decide⟩ _⟩
theorem params_good (wild:Bool):∀ (m:Nat) (r:aa'),LIv r→LIv (acL wild m r)
 | 0,r,h=>h
 | m+1,r,h=>by
  rw [acL];refine params_good wild m _ ⟨fun h=>by simp at h,fun _=>?_⟩
  show abe (r.pc ++ _)
  by_cases e:r.ix=[]
  ·obtain⟨c,t',hw,h1,h2⟩:=wordG_start r.st.nx;simp only [e,if_true];rw [h.1 e];have hk:=typ_good wild 2 r.st.tl;exact⟨fun x hx=>acF acE (acN (wordG_ok _) (sgn_np (by decide) _ x)) (acK (by decide) acE (hk.on (acO wild _).1 x hx)),_,_,_,rfl,c,t',hw,h1,h2⟩
  ·simp only [e,if_false];have hk:=typ_good wild 2 (acC wild r.st).tl;exact⟨fun x hx=>acJ _ _ x ((h.2 e).good _ (sgn_np (by decide) _ x)) (acK (by decide) acE (acF (acO wild _).1 (acN (wordG_ok _) (sgn_np (by decide) _ x)) (acK (by decide) acE (hk.on (acO wild _).1 x hx)))),(h.2 e).start.append _⟩
theorem li0 (s:abd):LIv ⟨[],[],s⟩:=⟨fun _=>rfl,fun h=>absurd rfl h⟩
theorem gh_32 (r:Bs):abf (32 :: r):=⟨32,r,rfl,.inl rfl⟩
theorem word_si {k:Nat}{c:UInt8}{t:Bs}(h:c ≠ 61∧c ≠ 46)(J:Pcs):abj (([],k,c :: t) :: J):=⟨_,_,_,rfl,c,t,rfl,h⟩
theorem on_np32 {I:Pcs}(h:abj I)(r:Bs):abg (aN (Pcs.on [32] I) ++ r):=by rw [h.text];exact (gh_32 _).np
theorem item0_good (wild:Bool)(s:abd):(∀ r,abf r→GoodR (itemG0 wild s).pc r)∧abj (itemG0 wild s).pc:=by
 unfold itemG0;simp only
 have hx:=wordG_ok s.tl.nx;obtain⟨xc,xt,hxe,hx1,hx2⟩:=wordG_start s.tl.nx;split
 ·
  refine⟨fun r hr=>?_,word_si ⟨by decide,by decide⟩ _⟩
  obtain⟨a1,a2⟩:=numPc_good (((s.tl.tl.nx % 30:Nat):Int) - 15) (by omega) (by omega);obtain⟨c1,c2⟩:=numPc_good ((((s.tl.tl.nx % 30:Nat):Int) - 15)+(((acT (((s.tl.tl.nx % 30:Nat):Int) - 15) s.tl.tl.tl).st.nx % 12:Nat):Int)) (by omega) (by omega)
  exact acF acE (acN (by decide) (gh_32 _).np) (acF gapB_32 (acN hx (sgn_np (by decide) _ r)) (acK (by decide) acE (acJ _ _ r ((abe.mk a1 a2).on (acO wild _).1 _ (pc_gh wild _ _ _ _ r).np)
   (acF (acO wild _).1 (two_ok 46 46 (by decide) _) ((abe.mk c1 c2).on (acO wild _).1 r hr.np)))))
 split
 ·
  refine⟨fun r hr=>?_,word_si ⟨by decide,by decide⟩ _⟩
  have h:=params_good wild (1+s.tl.tl.nx % 6) ⟨[],[],s.tl.tl.tl⟩ (li0 _);exact acF acE (acN (by decide) (gh_32 _).np) (acF gapB_32 (acN hx (sgn_np (by decide) _ r)) (acF acE (eq_ok 61 61 (by decide) 123 _ (by decide)) (acK (by decide) acE (acJ _ _ r (h.pi _ (sgn_np (by decide) _ r)) (acK (by decide) acE trivial)))))
 split
 ·
  refine⟨fun r hr=>?_,word_si ⟨by decide,by decide⟩ _⟩
  have h:=params_good wild (s.tl.tl.nx % 5) ⟨[],[],s.tl.tl.tl⟩ (li0 _);have hk:=typ_good wild 2 (acL wild (s.tl.tl.nx % 5) ⟨[],[],s.tl.tl.tl⟩).st;unfold funG;simp only
  generalize acL wild (s.tl.tl.nx % 5) ⟨[],[],s.tl.tl.tl⟩=R at *
  generalize acI wild 2 R.st=K at *
  obtain⟨n,hn⟩:∃ n,n=uptoN K.st:=⟨_,rfl⟩;have hn8:n < 140:=by rw [hn];unfold uptoN;split <;> omega
  rw [← hn]
  generalize hs1:(if 0 < n then acC wild K.st.tl else K.st.tl)=s1
  have hb:=expr_good wild 4 s1
  generalize acG wild 4 s1=B at *
  have hend:GoodR ((acM wild (acC wild (acC wild B.st)),4,[61]) :: B.pc) r:=acF (acO wild _).1 (by have:=eq_in (x:=61) (z:=61) (by decide) hb.start [] r;rwa [List.append_nil] at this) (hb.good r hr.np)
  have hu:GoodR ((if 0 < n then [(([32]:Bs),3,([117,112,116,111]:Bs)),(acM wild K.st.tl,2,Go.Lib.itoa (n:Int))] else []) ++ (acM wild (acC wild (acC wild B.st)),4,[61]) :: B.pc) r:=by
   split
   ·exact acF gapB_32 (acN (by decide) (pc_gh wild _ _ _ _ r).np) (acF (acO wild _).1 (num_ok (num_good n hn8) (pc_gh wild _ _ _ _ r).np) hend)
   ·exact hend
  have hun:abg (aN ((if 0 < n then [(([32]:Bs),3,([117,112,116,111]:Bs)),(acM wild K.st.tl,2,Go.Lib.itoa (n:Int))] else []) ++ (acM wild (acC wild (acC wild B.st)),4,[61]) :: B.pc) ++ r):=by
   split
   ·exact (gh_32 _).np
   ·exact (pc_gh wild _ _ _ _ r).np
  exact acF acE (acN (by decide) (pc_gh wild _ _ _ _ r).np) (acF (acO wild _).1 (acN hx (sgn_np (by decide) _ r)) (acK (by decide) acE (acJ _ _ r (h.pi _ (sgn_np (by decide) _ r)) (acK (by decide) acE
   (acK (by decide) (acO wild _).1 (acJ _ _ r (hk.good _ hun) hu))))))
 split
 ·
  refine⟨fun r hr=>?_,word_si ⟨by decide,by decide⟩ _⟩
  have hb:=expr_good wild 4 s.tl.tl
  have he:TkOk 4 [61] (aN (Pcs.on (acM wild (acG wild 4 s.tl.tl).st) (acG wild 4 s.tl.tl).pc) ++ r):=by
   obtain⟨c,r',e,hc⟩:=on_gh hb.start wild (acG wild 4 s.tl.tl).st r;rw [e];exact eq_ok 61 61 (by decide) c r' (by rcases hc with rfl | rfl <;> decide)
  exact acF acE (acN (by decide) (gh_32 _).np) (acF gapB_32 (acN hx (sgn_np (by decide) _ r)) (acF acE he (hb.on (acO wild _).1 r hr.np)))
 split
 ·
  refine⟨fun r hr=>?_,word_si ⟨by decide,by decide⟩ _⟩
  have hb:=expr_good wild 4 s.tl.tl;exact acF acE (acN (by decide) (gh_32 _).np) (acF gapB_32 (acN hx (pc_gh wild _ _ _ _ r).np) (acK (by decide) (acO wild _).1 (hb.good r hr.np)))
 split
 ·
  exact⟨fun r hr=>acF acE (acN (by decide) (pc_gh wild _ _ _ _ r).np) (acF (acO wild _).1 (acN hx (by simpa [aN] using hr.np)) trivial),word_si ⟨by decide,by decide⟩ _⟩
 ·
  refine⟨fun r hr=>?_,word_si ⟨by decide,by decide⟩ _⟩
  unfold askG;simp only
  have hq:wordB 3 (sg queriesG (1+s.tl.tl.nx % 8))=true:=by
   have:∀ q:Fin 8,wordB 3 (sg queriesG (1+q.val))=true:=by decide +kernel
   exact this ⟨s.tl.tl.nx % 8,by omega⟩
  generalize 1+s.tl.tl.nx % 8=q at *
  generalize hm:(if q=7 then 0 else if q=8 then 1+s.tl.tl.tl.nx % 4 else 1)=m
  generalize (if q=8 then s.tl.tl.tl.tl else s.tl.tl.tl)=s3
  have hl:=list_good wild (expr_good wild 3) m ⟨[],[],s3⟩ (li0 _)
  generalize acS wild (acG wild 3) m ⟨[],[],s3⟩=L at *
  have h2:GoodR (Pcs.on [32] L.pc) r∧abg (aN (Pcs.on [32] L.pc) ++ r):=by
   by_cases e:L.ix=[]
   ·rw [hl.1 e];exact⟨trivial,hr.np⟩
   ·exact⟨(hl.2 e).on gapB_32 r hr.np,on_np32 (hl.2 e).start r⟩
  exact acF acE (acN (by decide) (pc_gh wild _ _ _ _ r).np) (acF (acO wild _).1 (acN hq h2.2) h2.1)
theorem item_good (wild:Bool)(s:abd):(∀ r,GoodR (itemG wild s).pc r)∧abj (itemG wild s).pc:=by
 obtain⟨h1,h2⟩:=item0_good wild s
 have ht:GapB (trailG s)∧(trailG s=[]∨trailG s=[32]):=by
  unfold trailG;split
  ·exact⟨gapB_32,.inr rfl⟩
  ·exact⟨acE,.inl rfl⟩
 refine⟨fun r=>acJ _ _ r (h1 _ ?_) (acK (by decide) (ht.1.append (acO wild _).1) trivial),h2.append _⟩
 show abf (((trailG s ++ acM wild _) ++ ([59] ++ [])) ++ r)
 rw [List.append_assoc,List.append_assoc];rcases ht.2 with e | e
 ·rw [e];exact gapG_gh wild _ _
 ·rw [e];exact gh_32 _
def GIv (r:aa'):Prop:=(∀ x,GoodR r.pc x)∧(r.ix=[]→r.pc=[])
theorem grow_good (wild:Bool):∀ (m:Nat) (r:aa'),GIv r→GIv (growG wild m r)
 | 0,r,h=>h
 | m+1,r,h=>by
  rw [growG];split
  ·exact h
  ·obtain⟨h1,h2⟩:=item_good wild r.st;refine grow_good wild m _ ⟨fun x=>?_,fun h=>by simp at h⟩
   show GoodR (r.pc ++ _) x
   by_cases e:r.ix=[]
   ·rw [if_pos e,h.2 e];exact h1 x
   ·rw [if_neg e];refine acJ _ _ x (h.1 _) ?_;obtain⟨k,t,R,he,_⟩:=h2;have hg:=h1 x;rw [he] at hg ⊢
    exact⟨by show GapB ([10] ++ []);exact gapB_10,hg.2.1,hg.2.2⟩
theorem grown_good (wild:Bool)(b:Bs)(r:Bs):GoodR (grown wild b).pc r:=(grow_good wild 12 ⟨[],[],⟨b,[]⟩⟩ ⟨fun _=>trivial,fun _=>rfl⟩).1 r
theorem pcs_len:∀ (I:Pcs) (E:Bs),GoodR I E→I.length≤((aN I).filter fun b=>!(b == 32) && !(b == 10)).length
 | [],_,_=>aaL _
 | (g,k,t) :: I,E,⟨_,h2,h3⟩=>by
  have ih:=pcs_len I E h3
  show I.length+1≤((g ++ (t ++ aN I)).filter _).length
  rw [List.filter_append,List.filter_append,aaO,aaO]
  have:1≤(t.filter fun b=>!(b == 32) && !(b == 10)).length:=by
   have hp:=h2.pos;have hs:=h2.skip
   cases t with
   | nil=>simp at hp
   | cons b t =>
    have hb:pR b=false:=by
     cases hg:pR b
     ·rfl
     ·exfalso
      have hs:gK false (b :: (t ++ (aN I ++ E)))=0:=hs;rw [gK,if_pos hg] at hs;omega
    have hb2:(!(b == 32) && !(b == 10))=true:=by
     unfold pR at hb;simp only [Bool.or_eq_false_iff] at hb;rw [hb.1,hb.2];rfl
    rw [List.filter_cons_of_pos (p:=fun b=>!(b == 32) && !(b == 10)) hb2];simp
  omega
end Mist
namespace Mist
def abk (r r':Option j6):Prop:=∀ x,r=some x→r'=some x
theorem abk.refl (r:Option j6):abk r r:=fun _ h=>h
theorem abk.none (r:Option j6):abk none r:=fun _ h=>by cases h
section
variable {l:List Tok} {en:Int}
end
def Runs (l:List Tok)(en:Int)(j:Job)(k:Nat)(ns:List Nd)(a:List Int)(k':Nat)(ns':List Nd):Prop:=∃ n,run l en n j k ns=some (.ok a k' ns')
section
variable {l:List Tok} {en:Int} {k k1 k2 k3:Nat} {ns aJ fF uK:List Nd} {a b c:Int} {us:List Int}
end
end Mist
namespace Mist
def strip (x:Nd):Nd:=⟨x.kind,x.text,x.n,x.kids,0⟩
def AtP (l:List Tok)(p:Nat)(I:Pcs):Prop:=∀ i g k t,I[i]? = some (g,k,t)→(tg l (p+i)).kind=k∧tx l (p+i)=t
section
variable {l:List Tok} {p:Nat}
theorem AtP.left {I J:Pcs}(h:AtP l p (I ++ J)):AtP l p I:=fun i g k t e=>h i g k t (by rw [List.getElem?_append_left (aaE.1 e).1];exact e)
theorem AtP.right {I J:Pcs}(h:AtP l p (I ++ J)):AtP l (p+I.length) J:=fun i g k t e=>by
 have:=h (I.length+i) g k t (by rw [List.getElem?_append_right (by omega),Nat.add_sub_cancel_left];exact e)
 rwa [← Nat.add_assoc] at this
theorem AtP.head {g:Bs}{k:Nat}{t:Bs}{I:Pcs}(h:AtP l p ((g,k,t) :: I)):(tg l p).kind=k∧tx l p=t:=h 0 g k t rfl
theorem AtP.tail {x:Bs × Nat × Bs}{I:Pcs}(h:AtP l p (x :: I)):AtP l (p+1) I:=fun i g k t e=>by
 have:=h (i+1) g k t (by simpa using e)
 rwa [show p+(i+1)=p+1+i by omega] at this
theorem on_length (g:Bs)(I:Pcs):(Pcs.on g I).length=I.length:=by cases I <;> rfl
theorem AtP.on {g:Bs}{I:Pcs}(h:AtP l p (Pcs.on g I)):AtP l p I:=fun i g' k t e=>by
 cases I with
 | nil=>simp at e
 | cons x I =>
  obtain⟨h0,k0,t0⟩:=x
  cases i with
  | zero =>
   have e:(h0,k0,t0)=(g',k,t):=by simpa using e
   injection e with e1 e2;injection e2 with e2 e3;subst e2;subst e3
   exact h 0 _ k0 t0 rfl
  | succ i=>exact h (i+1) g' k t (by show I[i]? = _;simpa using e)
end
def StopX (t:Bs):Prop:=t ≠ [46]∧t ≠ [91]∧t ≠ [40]∧t ≠ [123]
structure HdT (t:Bs):Prop where
 neg:t ≠ [45]
 not:t ≠ [110,111,116]
 if_:t ≠ [105,102]
 yB:t ≠ [108,101,116]
 shut:t ≠ [41]
section
variable {l:List Tok} {en:Int} {k k1:Nat} {ns aJ:List Nd} {a:Int}
end
structure abm (s:abd) (r:abb) (new:List Nd):Prop where
 ns:r.st.ns=s.ns ++ new
 head:∃ g k t R,r.pc=(g,k,t) :: R∧HdT t
 run:∀ (l:List Tok) (en:Int) (p:Nat) (ns:List Nd),AtP l p r.pc→ns.length=s.ns.length→StopX (tx l (p+r.pc.length))→∃ new',new'.map strip=new∧Runs l en .post p ns [r.ix] (p+r.pc.length) (ns ++ new')
theorem abm.hd {s:abd}{r:abb}{new:List Nd}(h:abm s r new){l:List Tok}{p:Nat}(ha:AtP l p r.pc):HdT (tx l p):=by
 obtain⟨g,k,t,R,e,ht⟩:=h.head;rw [e] at ha
 rw [ha.head.2];exact ht
theorem acD (wild:Bool)(s:abd):(acC wild s).ns=s.ns:=by unfold acC abd.tl;split <;> rfl
theorem acR (wild:Bool)(s:abd):(someS wild s).ns=s.ns:=by
 unfold someS;split
 ·split
  ·rw [acD];rfl
  ·rfl
 ·rfl
theorem wordG_mem (b:Nat):acH b ∈ wordsG:=sg_mem wordsG _ (by show b % 8 < 8;omega)
section
variable (wild:Bool) {E:abd→abb} (hE:∀ s,∃ new,abm s (E s) new)
include hE
end
end Mist
namespace Mist
def tl (I:Pcs):Nat:=(aN I).length
theorem tl_nil:tl []=0:=rfl
theorem acQ (g:Bs)(k:Nat)(t:Bs)(I:Pcs):tl ((g,k,t) :: I)=g.length+t.length+tl I:=by
 unfold tl;rw [aN];simp only [aaO];omega
theorem tl_sgn (t:Bs)(I:Pcs):tl (sgn t :: I)=t.length+tl I:=by
 unfold sgn;rw [acQ];simp
theorem tl_append (I J:Pcs):tl (I ++ J)=tl I+tl J:=by unfold tl;rw [qZ,aaO]
theorem tl_on (g:Bs)(I:Pcs):tl (Pcs.on g I)≤g.length+tl I:=by
 cases I with
 | nil=>show 0≤_;omega
 | cons x I =>
  obtain⟨h,k,t⟩:=x
  show tl ((g ++ h,k,t) :: I)≤_
  rw [acQ,acQ,aaO];omega
theorem gap_le (wild:Bool)(s:abd):(acM wild s).length≤8:=by
 unfold acM;split
 ·have:∀ g ∈ gapsG,g.length≤8:=by decide
  exact this _ (sg_mem gapsG _ (by show s.nx % 6 < 6;omega))
 ·decide
theorem wordG_le (b:Nat):(acH b).length≤4:=by
 have:∀ g ∈ wordsG,g.length≤4:=by decide
 exact this _ (wordG_mem b)
theorem opG_le (k:Nat):(sg opsG k).length≤3:=by
 by_cases h:k < 13
 ·have:∀ g ∈ opsG,g.length≤3:=by decide
  exact this _ (sg_mem opsG _ h)
 ·have:sg opsG k=[]:=by unfold sg;rw [aaH,List.getElem?_eq_none (by show 13≤k;omega)];rfl
  rw [this];simp
theorem someP_le (wild:Bool)(I:Pcs)(s:abd):tl (someP wild I s)≤tl I+12:=by
 have hg:=gap_le wild s.tl;unfold someP;split
 ·rw [List.cons_append,List.cons_append,tl_sgn,tl_sgn,tl_append,acQ,tl_sgn,tl_nil]
  show 1+(1+(tl I+((acM wild s.tl).length+1+(1+0))))≤_
  omega
 ·rw [List.cons_append,tl_sgn,tl_append,tl_sgn,tl_nil]
  show 1+(tl I+(1+0))≤_
  omega
theorem itoa_le:∀ n:Fin 140,(Go.Lib.itoa ((n.val:Nat):Int)).length≤3:=by decide +kernel
theorem numPc_le (n:Int)(h1:-140 < n)(h2:n < 140):tl (numPc n)≤4:=by
 unfold numPc;split
 ·obtain⟨m,hm⟩:∃ m:Nat,-n=(m:Int):=⟨(-n).toNat,by omega⟩;rw [hm,acQ,acQ,tl_nil]
  have:=itoa_le ⟨m,by omega⟩
  simp only [List.length_cons,List.length_nil] at *
  omega
 ·obtain⟨m,hm⟩:∃ m:Nat,n=(m:Int):=⟨n.toNat,by omega⟩;rw [hm,acQ,tl_nil]
  have:=itoa_le ⟨m,by omega⟩
  simp only [List.length_nil] at *
  omega
structure abL (E:abd→abb) (L C:Nat):Prop where
 text:∀ s,tl (E s).pc≤L
 nodes:∀ s,(E s).st.ns.length≤s.ns.length+C
theorem leaf_bd (b:Nat)(hb:b < 60)(s:abd):tl (leafG b s).pc≤8∧(leafG b s).st.ns.length=s.ns.length+1:=by
 unfold leafG;split
 ·exact⟨Nat.le_trans (numPc_le ((b * 7:Nat):Int) (by omega) (by omega)) (by omega),aaO⟩
 ·split
  ·refine⟨?_,aaO⟩
   show tl [([],3,_)]≤8
   rw [acQ];split <;> decide
  ·refine⟨?_,aaO⟩
   show tl [([],1,_)]≤8
   have:=wordG_le b
   rw [acQ,tl_nil];simp only [List.length_nil];omega
section
variable (wild:Bool) {E:abd→abb} {L C:Nat} (h:abL E L C)
include h
theorem list_bd:∀ (m:Nat) (r:aa'),tl (acS wild E m r).pc≤tl r.pc+m * (L+9)∧(acS wild E m r).st.ns.length≤r.st.ns.length+m * C∧(acS wild E m r).ix.length=r.ix.length+m
 | 0,r=>⟨by rw [acS];omega,by rw [acS];omega,rfl⟩
 | m+1,r=>by
  rw [acS];have e1:(m+1) * (L+9)=m * (L+9)+(L+9):=Nat.succ_mul _ _;have e2:(m+1) * C=m * C+C:=Nat.succ_mul _ _;simp only
  split
  ·have ih:=list_bd m ⟨r.pc ++ (E r.st).pc,r.ix ++ [(E r.st).ix],(E r.st).st⟩;have h1:=h.text r.st;have h2:=h.nodes r.st;simp only [tl_append,aaO,aaT] at ih
   exact⟨by omega,by omega,by omega⟩
  ·have ih:=list_bd m ⟨r.pc ++ (sgn [44] :: Pcs.on (acM wild r.st) (E (acC wild r.st)).pc),r.ix ++ [(E (acC wild r.st)).ix],(E (acC wild r.st)).st⟩;have h1:=h.text (acC wild r.st);have h2:=h.nodes (acC wild r.st);have h3:=tl_on (acM wild r.st) (E (acC wild r.st)).pc;have h4:=gap_le wild r.st;rw [acD] at h2
   simp only [tl_append,tl_sgn,aaO,aaT] at ih
   exact⟨by omega,by omega,by omega⟩
theorem puts_bd:∀ (m:Nat) (r:aa'),tl (putsG wild E m r).pc≤tl r.pc+m * (L+14)∧(putsG wild E m r).st.ns.length≤r.st.ns.length+m * (C+1)∧(putsG wild E m r).ix.length=r.ix.length+m
 | 0,r=>⟨by rw [putsG];omega,by rw [putsG];omega,rfl⟩
 | m+1,r=>by
  rw [putsG];have e1:(m+1) * (L+14)=m * (L+14)+(L+14):=Nat.succ_mul _ _;have e2:(m+1) * (C+1)=m * (C+1)+(C+1):=Nat.succ_mul _ _;obtain⟨s0,hs0⟩:∃ s0,s0=if r.ix=[] then r.st else acC wild r.st:=⟨_,rfl⟩
  have hn0:s0.ns=r.st.ns:=by rw [hs0];split;rfl;exact acD wild r.st
  simp only [← hs0];have h1:=h.text s0.tl;have h2:=h.nodes s0.tl;have h3:=gap_le wild r.st;have h4:=wordG_le s0.nx
  have hI:tl (if r.ix=[] then (([],1,acH s0.nx) :: sgn [58] :: (E s0.tl).pc:Pcs) else (acM wild r.st,4,[44]) :: ([],1,acH s0.nx) :: sgn [58] :: (E s0.tl).pc)≤L+14:=by
   split
   ·rw [acQ,tl_sgn];simp only [List.length_nil,aaT];omega
   ·rw [acQ,acQ,tl_sgn];simp only [List.length_nil,aaT];omega
  have ih:=puts_bd m ⟨r.pc ++ (if r.ix=[] then (([],1,acH s0.nx) :: sgn [58] :: (E s0.tl).pc:Pcs) else (acM wild r.st,4,[44]) :: ([],1,acH s0.nx) :: sgn [58] :: (E s0.tl).pc),r.ix ++ [(E s0.tl).st.id],(E s0.tl).st.put ⟨25,acH s0.nx,0,[(E s0.tl).ix],0⟩⟩;have hp:((E s0.tl).st.put ⟨25,acH s0.nx,0,[(E s0.tl).ix],0⟩).ns.length=(E s0.tl).st.ns.length+1:=aaO;have h2:(E s0.tl).st.ns.length≤r.st.ns.length+C:=by rw [← hn0];exact h2
  simp only [tl_append,aaO,aaT] at ih
  rw [hp] at ih
  exact⟨by omega,by omega,by omega⟩
theorem op_bd (b:Nat)(s:abd):tl (opG wild E b s).pc≤4 * L+100∧(opG wild E b s).st.ns.length≤s.ns.length+(4 * C+5):=by
 unfold opG;have h1:=h.text s;have h2:=h.nodes s;have h3:=h.text (E s).st;have h4:=h.nodes (E s).st;split
 ·unfold notG acP;simp only
  constructor
  ·refine Nat.le_trans (someP_le wild _ _) ?_;have h5:=tl_on (acM wild (E s).st) (E s).pc;have h6:=gap_le wild (E s).st;split
   ·rw [acQ];simp only [List.length_cons,List.length_nil];omega
   ·rw [tl_sgn];simp only [List.length_cons,List.length_nil];omega
  ·show (_ ++ [_]).length≤_
   rw [aaO,acR,acD];simp only [aaT];omega
 ·unfold binG acP;simp only
  constructor
  ·refine Nat.le_trans (someP_le wild _ _) ?_;have h5:=tl_on (acM wild (acC wild (E (E s).st).st)) (E (E s).st).pc;have h6:=gap_le wild (E (E s).st).st;have h7:=gap_le wild (acC wild (E (E s).st).st);have h8:=opG_le (b % 13);rw [tl_append,acQ];omega
  ·show (_ ++ [_]).length≤_
   rw [aaO,acR,acD,acD];simp only [aaT];omega
theorem comp_bd (b:Nat)(s:abd):tl (compG wild E b s).pc≤4 * L+100∧(compG wild E b s).st.ns.length≤s.ns.length+(4 * C+5):=by
 have hw:=wordG_le s.nx;unfold compG;simp only
 have hs:s.tl.ns=s.ns:=rfl;rw [← hs]
 generalize s.tl=s' at *
 generalize acH s.nx=x at *
 clear hs;have h1:=h.text s';have h2:=h.nodes s';have h3:=h.text (E s').st;have h4:=h.nodes (E s').st;have h5:=h.text (E (E s').st).st;have h6:=h.nodes (E (E s').st).st;have on:=fun (w:Bool) (z:abd) (I:Pcs)=>Nat.le_trans (tl_on (acM w z) I) (Nat.add_le_add_right (gap_le w z) _)
 have gl:=gap_le wild;split
 ·unfold ifG acP;simp only
  constructor
  ·refine Nat.le_trans (someP_le wild _ _) ?_;simp only [tl_append,acQ,List.length_cons,List.length_nil];have o1:=on wild (E (E (E s').st).st).st (E s').pc;have o2:=on wild (acC wild (acC wild (E (E (E s').st).st).st)) (E (E s').st).pc;have o3:=on wild (acC wild (acC wild (acC wild (acC wild (E (E (E s').st).st).st)))) (E (E (E s').st).st).pc;have g1:=gl (acC wild (E (E (E s').st).st).st);have g2:=gl (acC wild (acC wild (acC wild (E (E (E s').st).st).st)));omega
  ·show (_ ++ [_]).length≤_
   rw [aaO,acR,acD,acD,acD,acD,acD];simp only [aaT];omega
 split
 ·unfold letG acP;simp only
  constructor
  ·refine Nat.le_trans (someP_le wild _ _) ?_;simp only [tl_append,acQ,List.length_cons,List.length_nil];have o2:=on wild (acC wild (acC wild (acC wild (E (E s').st).st))) (E (E s').st).pc;have g1:=gl (E (E s').st).st;have g2:=gl (acC wild (E (E s').st).st);have g3:=gl (acC wild (acC wild (E (E s').st).st));omega
  ·show (_ ++ [_]).length≤_
   rw [aaO,acR,acD,acD,acD,acD];simp only [aaT];omega
 split
 ·unfold callG acP;simp only
  obtain⟨l1,l2,_⟩:=list_bd wild h (s'.nx % 4) ⟨[],[],s'.tl⟩;rw [tl_nil] at l1
  have l2:(acS wild E (s'.nx % 4) ⟨[],[],s'.tl⟩).st.ns.length≤s'.ns.length+s'.nx % 4 * C:=l2;have m1:s'.nx % 4 * (L+9)≤3 * (L+9):=Nat.mul_le_mul_right _ (by omega);have m2:s'.nx % 4 * C≤3 * C:=Nat.mul_le_mul_right _ (by omega);constructor
  ·simp only [tl_append,acQ,tl_sgn,tl_nil,List.length_cons,List.length_nil];have g1:=gl (acS wild E (s'.nx % 4) ⟨[],[],s'.tl⟩).st;omega
  ·show (_ ++ [_]).length≤_
   rw [aaO,acD];simp only [aaT];omega
 split
 ·unfold fieldG acP;simp only
  constructor
  ·simp only [tl_append,acQ,tl_sgn,tl_nil,List.length_cons,List.length_nil];have g1:=gl (E s').st;omega
  ·show (_ ++ [_]).length≤_
   rw [aaO,acD];simp only [aaT];omega
 split
 ·unfold indexG acP;simp only
  constructor
  ·simp only [tl_append,acQ,tl_sgn,tl_nil,List.length_cons,List.length_nil];have g1:=gl (E (E s').st).st;omega
  ·show (_ ++ [_]).length≤_
   rw [aaO,acD];simp only [aaT];omega
 split
 ·unfold arrayG acP;simp only
  obtain⟨l1,l2,_⟩:=list_bd wild h (1+s'.nx % 4) ⟨[],[],s'.tl⟩;rw [tl_nil] at l1
  have l2:(acS wild E (1+s'.nx % 4) ⟨[],[],s'.tl⟩).st.ns.length≤s'.ns.length+(1+s'.nx % 4) * C:=l2;have m1:(1+s'.nx % 4) * (L+9)≤4 * (L+9):=Nat.mul_le_mul_right _ (by omega);have m2:(1+s'.nx % 4) * C≤4 * C:=Nat.mul_le_mul_right _ (by omega);constructor
  ·simp only [tl_append,acQ,tl_sgn,tl_nil,List.length_cons,List.length_nil];have o1:=on wild (acS wild E (1+s'.nx % 4) ⟨[],[],s'.tl⟩).st (acS wild E (1+s'.nx % 4) ⟨[],[],s'.tl⟩).pc;omega
  ·show (_ ++ [_]).length≤_
   rw [aaO,acD];simp only [aaT];omega
 ·unfold recG acP;simp only
  obtain⟨l1,l2,_⟩:=puts_bd wild h (1+b % 3) ⟨[],[],s'⟩;rw [tl_nil] at l1
  have l2:(putsG wild E (1+b % 3) ⟨[],[],s'⟩).st.ns.length≤s'.ns.length+(1+b % 3) * (C+1):=l2;have m1:(1+b % 3) * (L+14)≤3 * (L+14):=Nat.mul_le_mul_right _ (by omega);have m2:(1+b % 3) * (C+1)≤3 * (C+1):=Nat.mul_le_mul_right _ (by omega);constructor
  ·simp only [tl_append,acQ,tl_sgn,tl_nil,List.length_cons,List.length_nil];have g1:=gl (putsG wild E (1+b % 3) ⟨[],[],s'⟩).st;omega
  ·show (_ ++ [_]).length≤_
   rw [aaO,acD];simp only [aaT];omega
end
def abN:Nat→Nat
 | 0=>8
 | d+1=>4 * abN d+100
def abM:Nat→Nat
 | 0=>1
 | d+1=>4 * abM d+5
theorem bd_ge:∀ d,8≤abN d∧1≤abM d
 | 0=>⟨aaJ _,aaJ _⟩
 | d+1=>by have:=bd_ge d;unfold abN abM;omega
theorem expr_bd (wild:Bool):∀ d,abL (acG wild d) (abN d) (abM d)
 | 0=>⟨fun s=>(leaf_bd _ (Nat.mod_lt _ (by decide)) s.tl).1,fun s=>Nat.le_of_eq (leaf_bd _ (Nat.mod_lt _ (by decide)) s.tl).2⟩
 | d+1=>by
  have ih:=expr_bd wild d;have hg:=bd_ge d
  refine⟨fun s=>?_,fun s=>?_⟩
  ·rw [acG];split
   ·rename_i e;have:=(leaf_bd _ e s.tl).1;unfold abN;omega
   split
   ·exact (op_bd wild ih s.nx s.tl).1
   ·exact (comp_bd wild ih s.nx s.tl).1
  ·rw [acG];split
   ·rename_i e;have:=(leaf_bd _ e s.tl).2;unfold abM;rw [this];show s.ns.length+1≤_;omega
   split
   ·exact (op_bd wild ih s.nx s.tl).2
   ·exact (comp_bd wild ih s.nx s.tl).2
end Mist
