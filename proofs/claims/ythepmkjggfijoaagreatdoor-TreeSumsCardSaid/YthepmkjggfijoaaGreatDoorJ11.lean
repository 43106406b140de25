/-
  A part of the proof.
-/
import Derived.Test.YthepmkjggfijoaaGreatDoorSA
import Derived.Deep.RegionHeld3
import Derived.Test.YthepmkjggfijoaaGreatDoorS28
import Derived.Test.YthepmkjggfijoaaGreatDoorS30
import Derived.Test.YthepmkjggfijoaaGreatDoorS29
import Derived.Test.YthepmkjggfijoaaGreatDoorS07
import Derived.Test.YthepmkjggfijoaaGreatDoorShelf
import Derived.Test.YthepmkjggfijoaaGreatDoorJ02
import Derived.Test.YthepmkjggfijoaaGreatDoorJ04
import Derived.Test.YthepmkjggfijoaaGreatDoorJ10
set_option linter.all false
set_option maxRecDepth 100000
set_option maxHeartbeats 2000000
open Go.Lib (hid)
namespace Mist
structure acB (ns0:List Nd) (p:Nat × Bool→Bool) (qs:List Int) (ns:List Nd):Prop where
 ok:jN ns
 wf:Wf ns
 more:∃ t,ns=ns0 ++ t
 fo:Fo ns ns0.length ns.length qs
 all:∀ a ∈ qs,p (dB ns a)=true
section
variable {ns0 ns ns':List Nd} {p q r:Nat × Bool→Bool} {qs bs:List Int}
theorem acB.nil (ha:jN ns)(hw:Wf ns):acB ns p [] ns:=⟨ha,hw,⟨[],by simp⟩,.nil _,fun a h=>nomatch h⟩
theorem acB.imp (g:acB ns0 p qs ns)(h:∀ x,p x=true→q x=true):acB ns0 q qs ns:=⟨g.ok,g.wf,g.more,g.fo,fun a ha=>h _ (g.all a ha)⟩
theorem acB.put {n:Nd}(g:acB ns0 p n.kids ns)(ho:uP ns n)(hp:q (n.kind,decide (n.n < 0))=true):acB ns0 q [(ns.length:Int)] (ns ++ [n]):=by
 have hi:Ids n.kids ns.length:=fun c hc=>by have:=g.fo.ids c hc;omega
 have hg:(ns ++ [n])[ns.length]? = some n:=by simp
 obtain⟨t,ht⟩:=g.more
 refine⟨g.ok.add g.wf ho hi,g.wf.add hi,⟨t ++ [n],by rw [ht,List.append_assoc]⟩,?_,fun a h=>?_⟩
 ·rw [aaO,aaT];exact Fo.one (g.fo.mono _) hg
 ·rw [List.mem_singleton.1 h];unfold dB
  simpa [aaH] using hp
theorem acB.join (g:acB ns0 p qs ns)(h:acB ns p bs ns'):acB ns0 p (qs ++ bs) ns':=by
 obtain⟨t,ht⟩:=g.more;obtain⟨u,hu⟩:=h.more
 refine⟨h.ok,h.wf,⟨t ++ u,by rw [hu,ht,List.append_assoc]⟩,(g.fo.more h.more).append h.fo,fun a ha=>?_⟩
 rcases List.mem_append.1 ha with ha | ha
 ·exact jc g.fo (aaJ _) g.all h.more a ha
 ·exact h.all a ha
end
theorem acB.end_ {s s1:abd}{I:Pcs}{n:Nd}{p q:Nat × Bool→Bool}{ns:List Nd}(g:acB s.ns p n.kids ns)(e:s1.ns=ns)(ho:uP ns n)(hp:q (n.kind,decide (n.n < 0))=true):acB s.ns q [(acP I s1 n).ix] (acP I s1 n).st.ns:=by
 subst e;exact g.put ho hp
theorem okM {ns:List Nd}(K:Nat)(x:Bs)(N:Int)(ks:List Int)(h1:known K=true)(hx:(ig K == isName x)=true)(hx2:(ig K || x.isEmpty)=true)(hm:jC ⟨K,x,N,ks,0⟩=true)(h5:gu ⟨K,x,N,ks,0⟩=true)(h7:oJ ⟨K,x,N,ks,0⟩ 0 (ks.map (dB ns))=true):uP ns ⟨K,x,N,ks,0⟩:=by
 unfold known at h1
 unfold uP okB;have h6:within 0 0 2000=true:=rfl;simp only [h1,hx,hx2,hm,h5,h6,h7,Bool.and_self]
theorem kidE {n:Nd}(hK:n.kind ≠ 24∧n.kind ≠ 41∧n.kind ≠ 34∧n.kind ≠ 33∧n.kind ≠ 40∧n.kind ≠ 42)(i:Nat)(q:Nat × Bool)(hq:pE q=true):ru n i q=true:=by
 unfold pE at hq
 unfold ru mJ;simp only [aaS] at hq
 simp only [hK.1,hK.2.1,hK.2.2.1,hK.2.2.2.1,hK.2.2.2.2.1,hK.2.2.2.2.2,if_false,hq.1,Bool.true_and,or_self]
 have:=hq.2
 revert this
 cases (q.1 == 1) <;> cases q.2 <;> simp
theorem okE {ns:List Nd}(K:Nat)(x:Bs)(N:Int)(ks:List Int)(hK:K ≠ 24∧K ≠ 41∧K ≠ 34∧K ≠ 33∧K ≠ 40∧K ≠ 42)(h1:known K=true)(hx:(ig K == isName x)=true∧(ig K || x.isEmpty)=true)(hm:jC ⟨K,x,N,ks,0⟩=true)(h5:gu ⟨K,x,N,ks,0⟩=true)(ha:∀ a ∈ ks,pE (dB ns a)=true):uP ns ⟨K,x,N,ks,0⟩ :=
 okM K x N ks h1 hx.1 hx.2 hm h5 (jT (p:=pE) (kidE hK) ks 0 ha)
theorem nameG (b:Nat):isName (acH b)=true:=by
 have:∀ g ∈ wordsG,isName g=true:=by decide
 exact this _ (wordG_mem b)
theorem nmY {K:Nat}(b:Nat)(h:ig K=true):(ig K == isName (acH b))=true∧(ig K || (acH b).isEmpty)=true:=by rw [nameG,h];exact⟨rfl,rfl⟩
theorem nmX {K:Nat}{x:Bs}(hx:isName x=true)(h:ig K=true):(ig K == isName x)=true∧(ig K || x.isEmpty)=true:=by rw [hx,h];exact⟨rfl,rfl⟩
theorem nK1 {n:Int}{ks:List Int}(h0:-9999≤n)(h1:n≤9999):gu ⟨1,[],n,ks,0⟩=true:=by simp [gu,within];omega
theorem nK2 {n:Int}{ks:List Int}(h0:0≤n)(h1:n≤1):gu ⟨2,[],n,ks,0⟩=true:=by simp [gu,within];omega
theorem nK46 {n:Int}{ks:List Int}(h0:1≤n)(h1:n≤8):gu ⟨46,[],n,ks,0⟩=true:=by simp [gu,within];omega
theorem putsG_ix (wild:Bool)(E:abd→abb):∀ (m:Nat) (r:aa'),(putsG wild E m r).ix.length=r.ix.length+m
 | 0,r=>rfl
 | m+1,r=>by
  rw [putsG,putsG_ix wild E m]
  show (r.ix ++ [_]).length+m=_
  rw [aaO];simp only [aaT];omega
theorem leaf_sg (b:Nat)(hb:b < 60)(s:abd)(ha:jN s.ns)(hw:Wf s.ns):acB s.ns pE [(leafG b s).ix] (leafG b s).st.ns:=by
 unfold leafG;split
 ·rename_i h
  refine acB.end_ (p:=pE) (acB.nil ha hw) rfl (okE 1 [] _ [] (by decide) (by decide) (bq (by decide)) rfl (nK1 (by omega) (by omega)) (fun a h=>nomatch h)) ?_
  ·show (lq 1 && !(1 == 1 && decide (((b * 7:Nat):Int) < 0)))=true
   rw [aaV (by omega)];rfl
 split
 ·exact acB.end_ (p:=pE) (acB.nil ha hw) rfl (okE 2 [] _ [] (by decide) (by decide) (bq (by decide)) rfl (nK2 (by omega) (by omega)) (fun a h=>nomatch h)) rfl
 ·exact acB.end_ (p:=pE) (acB.nil ha hw) rfl (okE 3 _ _ [] (by decide) (by decide) (nmY b (by decide)) rfl rfl (fun a h=>nomatch h)) rfl
section
variable (wild:Bool) {E:abd→abb} (h:∀ s:abd,jN s.ns→Wf s.ns→acB s.ns pE [(E s).ix] (E s).st.ns)
include h
theorem list_sg {ns0:List Nd}:∀ (m:Nat) (r:aa'),acB ns0 pE r.ix r.st.ns→acB ns0 pE (acS wild E m r).ix (acS wild E m r).st.ns
 | 0,r,g=>g
 | m+1,r,g=>by
  rw [acS];simp only
  split
  ·exact list_sg m _ (g.join (h r.st g.ok g.wf))
  ·have e:=acD wild r.st;have h1:=h (acC wild r.st) (by rw [e];exact g.ok) (by rw [e];exact g.wf);rw [e] at h1
   exact list_sg m _ (g.join h1)
theorem puts_sg {ns0:List Nd}:∀ (m:Nat) (r:aa'),acB ns0 (fun q=>q.1 == 25) r.ix r.st.ns→acB ns0 (fun q=>q.1 == 25) (putsG wild E m r).ix (putsG wild E m r).st.ns
 | 0,r,g=>g
 | m+1,r,g=>by
  rw [putsG];obtain⟨s0,hs0⟩:∃ s0,s0=if r.ix=[] then r.st else acC wild r.st:=⟨_,rfl⟩
  have hn0:s0.tl.ns=r.st.ns:=by rw [hs0];split;rfl;exact acD wild r.st
  simp only [← hs0];have h1:=h s0.tl (by rw [hn0];exact g.ok) (by rw [hn0];exact g.wf);rw [hn0] at h1
  exact puts_sg m _ (g.join (h1.put (n:=⟨25,acH s0.nx,0,[(E s0.tl).ix],0⟩) (okE 25 _ 0 _ (by decide) (by decide) (nmY _ (by decide)) rfl rfl h1.all) rfl))
theorem op_sg (b:Nat)(s:abd)(ha:jN s.ns)(hw:Wf s.ns):acB s.ns pE [(opG wild E b s).ix] (opG wild E b s).st.ns:=by
 unfold opG;have h1:=h s ha hw;split
 ·unfold notG;simp only
  refine acB.end_ (p:=pE) (ns:=(E s).st.ns) h1 (by rw [acR,acD]) ?_ ?_
  ·split
   ·exact okE 5 [] 0 _ (by decide) (by decide) (bq (by decide)) rfl rfl h1.all
   ·exact okE 4 [] 0 _ (by decide) (by decide) (bq (by decide)) rfl rfl h1.all
  ·split <;> rfl
 ·unfold binG;simp only
  have h2:=h1.join (h (E s).st h1.ok h1.wf);obtain⟨f1,f2,f3,f4,f5,f6⟩:=Ij (K:=6+b % 13) (by omega);exact acB.end_ (p:=pE) (ns:=(E (E s).st).st.ns) h2 (by rw [acR,acD,acD]) (okE _ [] 0 _ f1 f2 (bq f3) (f4 _ _) (f5 _) h2.all) f6
theorem comp_sg (b:Nat)(s:abd)(ha:jN s.ns)(hw:Wf s.ns):acB s.ns pE [(compG wild E b s).ix] (compG wild E b s).st.ns:=by
 unfold compG;simp only
 have hx:=nameG s.nx
 generalize hs:s.tl=s'
 have hss:s'.ns=s.ns:=by rw [← hs];rfl
 generalize acH s.nx=x at hx ⊢
 rw [← hss] at ha hw ⊢
 have h1:=h s' ha hw;have h2:=h1.join (h (E s').st h1.ok h1.wf);have h3:=h2.join (h (E (E s').st).st h2.ok h2.wf)
 have em:∀ (z:abd),z.ns=s'.ns→acB s'.ns pE (aa'.ix ⟨[],[],z⟩) (aa'.st ⟨[],[],z⟩).ns:=fun z hz=>by
  show acB s'.ns pE [] z.ns
  rw [hz];exact acB.nil ha hw
 split
 ·unfold ifG;simp only
  exact acB.end_ (p:=pE) (ns:=(E (E (E s').st).st).st.ns) h3 (by simp only [acR,acD]) (okE 19 [] 0 _ (by decide) (by decide) (bq (by decide)) rfl rfl h3.all) rfl
 split
 ·unfold letG;simp only
  exact acB.end_ (p:=pE) (ns:=(E (E s').st).st.ns) h2 (by simp only [acR,acD]) (okE 20 x 0 _ (by decide) (by decide) (nmX hx (by decide)) rfl rfl h2.all) rfl
 split
 ·unfold callG;simp only
  have g:=list_sg wild h (s'.nx % 4) ⟨[],[],s'.tl⟩ (em s'.tl rfl);exact acB.end_ (p:=pE) g (acD wild _) (okE 21 x 0 _ (by decide) (by decide) (nmX hx (by decide)) rfl rfl g.all) rfl
 split
 ·unfold fieldG;simp only
  exact acB.end_ (p:=pE) h1 (acD wild _) (okE 22 x 0 _ (by decide) (by decide) (nmX hx (by decide)) rfl rfl h1.all) rfl
 split
 ·unfold indexG;simp only
  exact acB.end_ (p:=pE) h2 (acD wild _) (okE 23 [] 0 _ (by decide) (by decide) (bq (by decide)) rfl rfl h2.all) rfl
 split
 ·unfold arrayG;simp only
  have g:=list_sg wild h (1+s'.nx % 4) ⟨[],[],s'.tl⟩ (em s'.tl rfl);have l3:=listG_ix wild E (1+s'.nx % 4) ⟨[],[],s'.tl⟩;refine acB.end_ (p:=pE) g (acD wild _) (okE 26 [] 0 _ (by decide) (by decide) (bq (by decide)) ?_ rfl g.all) rfl
  show decide (1≤_)=true
  rw [decide_eq_true_iff,l3];omega
 ·unfold recG;simp only
  have g:=puts_sg wild h (1+b % 3) ⟨[],[],s'⟩ (acB.nil ha hw);refine acB.end_ g (acD wild _) (okM 24 x 0 _ (by decide) (nmX hx (by decide)).1 (nmX hx (by decide)).2 ?_ rfl (jT (p:=fun q=>q.1 == 25) (fun i q hq=>?_) _ 0 g.all)) rfl
  ·show decide (1≤_)=true
   rw [decide_eq_true_iff,putsG_ix]
   show 1≤0+(1+b % 3)
   omega
  ·have hq:q.1=25:=by simpa using hq
   unfold ru mJ;simp [hq]
end
theorem expr_sg (wild:Bool):∀ (d:Nat) (s:abd),jN s.ns→Wf s.ns→acB s.ns pE [(acG wild d s).ix] (acG wild d s).st.ns
 | 0,s,ha,hw=>leaf_sg (s.nx % 60) (Nat.mod_lt _ (by decide)) s.tl ha hw
 | d+1,s,ha,hw=>by
  rw [acG];split
  ·rename_i h;exact leaf_sg s.nx h s.tl ha hw
  split
  ·exact op_sg wild (expr_sg wild d) s.nx s.tl ha hw
  ·exact comp_sg wild (expr_sg wild d) s.nx s.tl ha hw
def pT (q:Nat × Bool):Bool:=iH q.1
theorem kidT {n:Nd}(hK:n.kind=34∨n.kind=33)(i:Nat)(q:Nat × Bool)(hq:pT q=true):ru n i q=true:=by
 have h24:¬ n.kind=24:=by omega
 have h41:¬ n.kind=41:=by omega
 have h1:=Jb hq;unfold ru mJ;unfold pT at hq
 simp only [h24,h41,if_false,if_pos hK,hq,h1];rfl
theorem kind_sg (wild:Bool):∀ (d:Nat) (s:abd),jN s.ns→Wf s.ns→acB s.ns pT [(acI wild d s).ix] (acI wild d s).st.ns:=by
 have leaf:∀ (s:abd) (p:Bs × Nat × Bs) (K:Nat) (x:Bs),jN s.ns→Wf s.ns→known K=true→(ig K == isName x)=true∧(ig K || x.isEmpty)=true→jC ⟨K,x,0,[],0⟩=true→gu ⟨K,x,0,[],0⟩=true→pT (K,false)=true→acB s.ns pT [(acP [p] s.tl ⟨K,x,0,[],0⟩).ix] (acP [p] s.tl ⟨K,x,0,[],0⟩).st.ns:=fun s p K x ha hw h1 hx hm h5 hp =>
  acB.end_ (p:=pT) (acB.nil ha hw) rfl (okM K x 0 [] h1 hx.1 hx.2 hm h5 rfl) hp
 intro d
 induction d with
 | zero =>
  intro s ha hw;rw [acI];split
  ·exact leaf s _ 30 [] ha hw (by decide) (bq (by decide)) rfl rfl rfl
  split
  ·exact leaf s _ 31 [] ha hw (by decide) (bq (by decide)) rfl rfl rfl
  ·exact leaf s _ 32 _ ha hw (by decide) (nmY _ (by decide)) rfl rfl rfl
 | succ d ih =>
  intro s ha hw;rw [acI];split
  ·exact leaf s _ 30 [] ha hw (by decide) (bq (by decide)) rfl rfl rfl
  split
  ·exact leaf s _ 31 [] ha hw (by decide) (bq (by decide)) rfl rfl rfl
  split
  ·exact leaf s _ 32 _ ha hw (by decide) (nmY _ (by decide)) rfl rfl rfl
  ·simp only
   have g:=ih s.tl ha hw;exact acB.end_ (s:=s) (p:=pT) g (by rw [acD];rfl) (okM 33 [] _ _ (by decide) (bq (by decide)).1 (bq (by decide)).2 rfl rfl (jT (p:=pT) (kidT (.inr rfl)) _ 0 g.all)) rfl
theorem params_sg (wild:Bool){ns0:List Nd}:∀ (m:Nat) (r:aa'),acB ns0 (fun q=>q.1 == 34) r.ix r.st.ns→acB ns0 (fun q=>q.1 == 34) (acL wild m r).ix (acL wild m r).st.ns
 | 0,r,g=>g
 | m+1,r,g=>by
  rw [acL];obtain⟨s0,hs0⟩:∃ s0,s0=if r.ix=[] then r.st else acC wild r.st:=⟨_,rfl⟩
  have hn0:s0.tl.ns=r.st.ns:=by rw [hs0];split;rfl;exact acD wild r.st
  simp only [← hs0];have h1:=kind_sg wild 2 s0.tl (by rw [hn0];exact g.ok) (by rw [hn0];exact g.wf);rw [hn0] at h1
  refine params_sg wild m _ (g.join ?_);exact acB.end_ (I:=[]) (s:=r.st) h1 (acD wild _) (okM 34 _ 0 _ (by decide) (nmY _ (by decide)).1 (nmY _ (by decide)).2 rfl rfl (jT (p:=pT) (kidT (.inl rfl)) _ 0 h1.all)) rfl
def p1 (q:Nat × Bool):Bool:=q.1 == 1
theorem number_sg (n:Int)(h0:-9999≤n)(h1:n≤9999)(s:abd)(ha:jN s.ns)(hw:Wf s.ns):acB s.ns p1 [(acT n s).ix] (acT n s).st.ns:=by
 exact acB.end_ (p:=p1) (acB.nil ha hw) rfl (okM 1 [] n [] (by decide) (bq (by decide)).1 (bq (by decide)).2 rfl (nK1 h0 h1) rfl) rfl
theorem item_sg (wild:Bool)(s:abd)(ha:jN s.ns)(hw:Wf s.ns):acB s.ns pI [(itemG0 wild s).ix] (itemG0 wild s).st.ns:=by
 unfold itemG0;simp only
 have hx:=nameG s.tl.nx
 generalize hs:s.tl.tl=s'
 have hss:s'.ns=s.ns:=by rw [← hs];rfl
 generalize acH s.tl.nx=x at hx ⊢
 rw [← hss] at ha hw ⊢
 split
 ·unfold chooseG;simp only
  have hl:((s'.nx % 30:Nat):Int) - 15≤14:=by omega
  have hl2:-15≤((s'.nx % 30:Nat):Int) - 15:=by omega
  generalize ((s'.nx % 30:Nat):Int) - 15=low at hl hl2 ⊢
  have g1:=number_sg low (by omega) (by omega) s'.tl ha hw;have hk:(acT low s'.tl).st.nx % 12 < 12:=Nat.mod_lt _ (by decide)
  generalize (acT low s'.tl).st.nx % 12=k at hk ⊢
  have g2:=g1.join (number_sg (low+(k:Int)) (by omega) (by omega) (acT low s'.tl).st.tl g1.ok g1.wf);refine acB.end_ (s:=s') g2 (by rw [acD,acD,acD]) (okM 40 x 0 _ (by decide) (nmX hx (by decide)).1 (nmX hx (by decide)).2 rfl rfl (jT (p:=p1) (fun i q hq=>?_) _ 0 g2.all)) rfl;have hq:q.1=1:=by simpa [p1] using hq
  unfold ru mJ;simp [hq]
 split
 ·unfold typeG;simp only
  have g:=params_sg wild (ns0:=s'.ns) (1+s'.nx % 6) ⟨[],[],s'.tl⟩ (acB.nil ha hw);refine acB.end_ g rfl (okM 41 x 0 _ (by decide) (nmX hx (by decide)).1 (nmX hx (by decide)).2 ?_ rfl (jT (p:=fun q=>q.1 == 34) (fun i q hq=>?_) _ 0 g.all)) rfl
  ·show decide (1≤_)=true
   rw [decide_eq_true_iff,params_ix]
   show 1≤0+(1+s'.nx % 6)
   omega
  ·have hq:q.1=34:=by simpa using hq
   unfold ru mJ;simp [hq]
 split
 ·unfold funG;simp only
  have g:=params_sg wild (ns0:=s'.ns) (s'.nx % 5) ⟨[],[],s'.tl⟩ (acB.nil ha hw)
  generalize acL wild (s'.nx % 5) ⟨[],[],s'.tl⟩=r at g ⊢
  have g1:=kind_sg wild 2 r.st g.ok g.wf
  generalize acI wild 2 r.st=t at g1 ⊢
  obtain⟨n,hn⟩:∃ n,n=uptoN t.st:=⟨_,rfl⟩;obtain⟨s1,hs1⟩:∃ s1,s1=if 0 < n then acC wild t.st.tl else t.st.tl:=⟨_,rfl⟩
  have e1:s1.ns=t.st.ns:=by rw [hs1];split;(rw [acD];rfl);rfl
  rw [← hn,← hs1];have g2:=expr_sg wild 4 s1 (by rw [e1];exact g1.ok) (by rw [e1];exact g1.wf);rw [e1] at g2
  generalize acG wild 4 s1=b at g2 ⊢
  have G:acB s'.ns (fun _=>true) (r.ix ++ [t.ix] ++ [b.ix]) b.st.ns:=((g.imp fun _ _=>rfl).join (g1.imp fun _ _=>rfl)).join (g2.imp fun _ _=>rfl);have ea:r.ix ++ [t.ix,b.ix]=r.ix ++ [t.ix] ++ [b.ix]:=by simp
  have m12:∃ u,b.st.ns=r.st.ns ++ u:=by
   obtain⟨u,hu⟩:=g1.more;obtain⟨v,hv⟩:=g2.more;exact⟨u ++ v,by rw [hv,hu,List.append_assoc]⟩
  refine acB.end_ (p:=fun _=>true) (ns:=b.st.ns) (by show acB s'.ns _ (r.ix ++ [t.ix,b.ix]) _;rw [ea];exact G) (by rw [acD,acD,acD]) (okM 42 x _ _ (by decide) (nmX hx (by decide)).1 (nmX hx (by decide)).2 ?_ ?_ ?_) rfl
  ·show decide (2≤(r.ix ++ [t.ix,b.ix]).length)=true
   rw [decide_eq_true_iff,aaO]
   show 2≤r.ix.length+2
   omega
  ·show decide (0≤((n:Nat):Int))=true
   rw [decide_eq_true_iff];omega
  ·rw [ea,List.map_append,List.map_append];refine vg rfl _ 0 _ _ ?_ ?_ ?_ ?_
   ·show 0+(r.ix.map (dB b.st.ns)).length+2=(r.ix ++ [t.ix] ++ [b.ix]).length
    simp only [List.length_map,aaO,aaT];omega
   ·intro q hq;obtain⟨a,ha1,rfl⟩:=List.mem_map.1 hq;exact jc (p:=fun q=>q.1 == 34) g.fo (aaJ _) g.all m12 a ha1
   ·exact jc (p:=pT) g1.fo (aaJ _) g1.all g2.more t.ix (List.mem_singleton.2 rfl)
   ·exact g2.all b.ix (List.mem_singleton.2 rfl)
 split
 ·unfold letItemG;simp only
  have g:=expr_sg wild 4 s' ha hw;exact acB.end_ (p:=pE) g (acD wild _) (okE 43 x 0 _ (by decide) (by decide) (nmX hx (by decide)) rfl rfl g.all) rfl
 split
 ·unfold observeG;simp only
  have g:=expr_sg wild 4 s' ha hw;exact acB.end_ (p:=pE) g (acD wild _) (okE 44 x 0 _ (by decide) (by decide) (nmX hx (by decide)) rfl rfl g.all) rfl
 split
 ·unfold retractG;exact acB.end_ (p:=pE) (acB.nil ha hw) (acD wild s') (okE 45 x 0 [] (by decide) (by decide) (nmX hx (by decide)) rfl rfl (fun a h=>nomatch h)) rfl
 ·unfold askG;simp only
  have hq1:1≤1+s'.nx % 8:=by omega
  have hq8:1+s'.nx % 8≤8:=by omega
  generalize 1+s'.nx % 8=q at hq1 hq8 ⊢
  obtain⟨m,hm⟩:∃ m,m=if q=7 then 0 else if q=8 then 1+s'.tl.nx % 4 else 1:=⟨_,rfl⟩
  obtain⟨s1,hs1⟩:∃ s1,s1=if q=8 then s'.tl.tl else s'.tl:=⟨_,rfl⟩
  have e1:s1.ns=s'.ns:=by rw [hs1];split <;> rfl
  rw [← hm,← hs1];have g:=list_sg wild (expr_sg wild 3) (ns0:=s'.ns) m ⟨[],[],s1⟩ (by show acB s'.ns pE [] s1.ns;rw [e1];exact acB.nil ha hw);have l3:=listG_ix wild (acG wild 3) m ⟨[],[],s1⟩;have l3:(acS wild (acG wild 3) m ⟨[],[],s1⟩).ix.length=m:=by rw [l3];exact Nat.zero_add m
  refine acB.end_ (p:=pE) g (acD wild _) (okE 46 [] _ _ (by decide) (by decide) (bq (by decide)) ?_ (nK46 (by omega) (by omega)) g.all) rfl
  ·show (if ((q:Nat):Int)=7 then (_:Nat) == 0 else if ((q:Nat):Int)=8 then decide (1≤_) else _ == 1)=true
   rw [l3];by_cases h7:q=7
   ·rw [if_pos (by omega),hm,if_pos h7];rfl
   rw [if_neg (by omega)];by_cases h8:q=8
   ·rw [if_pos (by omega),hm,if_neg h7,if_pos h8,decide_eq_true_iff];omega
   ·rw [if_neg (by omega),hm,if_neg h7,if_neg h8];rfl
theorem grow_sg (wild:Bool):∀ (m:Nat) (r:aa'),acB [] pI r.ix r.st.ns→acB [] pI (growG wild m r).ix (growG wild m r).st.ns
 | 0,r,g=>g
 | m+1,r,g=>by
  rw [growG];split
  ·exact g
  simp only
  have h1:=item_sg wild r.st g.ok g.wf;refine grow_sg wild m _ (g.join ?_)
  show acB r.st.ns pI [(itemG0 wild r.st).ix] (acC wild (itemG0 wild r.st).st).ns
  rw [acD];exact h1
theorem grown_sg (wild:Bool)(b:Bs):acB [] pI (grown wild b).ix (grown wild b).st.ns:=grow_sg wild 12 ⟨[],[],⟨b,[]⟩⟩ (acB.nil (fun i n h=>by simp at h) (fun i n h=>by simp at h))
theorem growG_ix (wild:Bool):∀ (m:Nat) (r:aa'),(growG wild m r).ix.length≤r.ix.length+m
 | 0,r=>aaJ _
 | m+1,r=>by
  rw [growG];split
  ·omega
  ·have:=growG_ix wild m ⟨r.pc ++ (if r.ix=[] then (itemG wild r.st).pc else Pcs.on [10] (itemG wild r.st).pc),r.ix ++ [(itemG wild r.st).ix],(itemG wild r.st).st⟩
   simp only [aaO,aaT] at this
   simp only
   omega
end Mist
namespace Mist
theorem Kt {n:Nd}:∀ (qs:List (Nat × Bool)) (i:Nat),oJ n i qs=true→∀ j q,qs[j]? = some q→ru n (i+j) q=true
 | [],_,_,j,q,h=>by simp at h
 | a :: r,i,hk,0,q,h=>by
  obtain rfl:a=q:=by simpa using h
  rw [oJ,aaS] at hk
  exact hk.1
 | a :: r,i,hk,j+1,q,h=>by
  rw [oJ,aaS] at hk
  have:=Kt r (i+1) hk.2 j q (by simpa using h)
  rwa [show i+1+j=i+(j+1) by omega] at this
theorem Pn {T:Tr}{i:Nat}{x:Nd}(hx:T.nodes[i]? = some x)(h:uP T.nodes x):je T i=true:=by
 have e:=kH hx;unfold uP okB at h
 simp only [aaS] at h
 obtain⟨⟨⟨⟨⟨⟨h1,h2⟩,h3⟩,h4⟩,h5⟩,h6⟩,h7⟩:=h;unfold je;rw [e];simp only [aaS]
 refine⟨⟨⟨⟨⟨⟨h1,h2⟩,h3⟩,h4⟩,h5⟩,h6⟩,?_⟩
 rw [aaR];intro j hj;rw [List.mem_range] at hj
 have hg:(x.kids.map (dB T.nodes))[j]? = some (dB T.nodes (x.kids.getD j 0)):=by
  rw [List.getElem?_map,aaD hj,aaH,aaD hj];rfl
 have:=Kt _ 0 h7 j _ hg
 rw [Nat.zero_add] at this
 unfold ru dB at this
 exact this
theorem pI_item {T:Tr}(h:∀ a ∈ T.items,pI (dB T.nodes a)=true):∀ c ∈ T.items,eP (nd T c.toNat).kind=true:=h
theorem MO {T:Tr}(hA:jN T.nodes)(hF:Fo T.nodes 0 T.nodes.length T.items)(hI:∀ a ∈ T.items,pI (dB T.nodes a)=true):kE T=true :=
 (rR T).2 ⟨⟨hF,pI_item hI⟩,fun _ hi=>Pn (Cw hi) (hA _ _ (Cw hi))⟩
end Mist
namespace Go.Proofs.YthepmkjggfijoaaGreatDoor
open Go.RowKit Mist
theorem Sb {K:Nat}(h:Mist.known K=true):K < 256:=by
 by_cases hk:K < 256
 ·exact hk
 ·exfalso
  unfold Mist.known lq iH eP at h
  simp at h
  omega
theorem nP {a lo hi:Int}(h:within a lo hi=true):lo≤a∧a≤hi:=by simpa [within] using h
theorem Sv {T:Tr}(hA:jN T.nodes)(hW:Wf T.nodes)(hS:∀ x ∈ T.nodes,Mist.sized T x=true)(hl:T.nodes.length≤1000):xO T.nodes:=by
 intro x hx;obtain⟨i,hi,hxi⟩:=List.getElem_of_mem hx;have hx':T.nodes[i]? = some x:=by rw [← hxi];exact aaD hi
 have hok:=hA i x hx';unfold uP okB at hok
 simp only [aaS] at hok
 obtain⟨⟨⟨⟨⟨⟨h1,h2⟩,h3⟩,h4⟩,h5⟩,h6⟩,h7⟩:=hok;have hs:=hS x hx
 refine⟨Sb (by unfold Mist.known;exact h1),?_,?_,?_,?_⟩
 ·by_cases hn:ig x.kind=true
  ·rw [hn] at h2
   have h2:isName x.text=true:=(eq_of_beq h2).symm;unfold isName at h2
   have:=(Ct x.text (by rw [eq_of_beq h2];decide)).1
   omega
  ·have h3:x.text.isEmpty=true:=by simpa [hn] using h3
   have:x.text=[]:=List.isEmpty_iff.1 h3
   rw [this];simp
 ·by_cases k1:x.kind=1
  ·have:=nP (by simpa [gu,k1] using h5:within x.n (-9999) 9999=true);unfold jq gq;omega
  by_cases k2:x.kind=2
  ·have:=nP (by simpa [gu,k2] using h5:within x.n 0 1=true);unfold jq gq;omega
  by_cases k42:x.kind=42
  ·have a:0≤x.n:=by simpa [gu,k42] using h5
   have b:x.n≤8:=by
    unfold Mist.sized at hs
    simp [k42] at hs
    exact hs.2
   unfold jq gq;omega
  by_cases k33:x.kind=33
  ·have:=nP (by unfold Mist.sized at hs;simpa [k33] using hs:within x.n 1 6=true);unfold jq gq;omega
  by_cases k46:x.kind=46
  ·have:=nP (by simpa [gu,k46] using h5:within x.n 1 8=true);unfold jq gq;omega
  ·have:x.n=0:=by simpa [gu,k1,k2,k42,k33,k46] using h5
   unfold jq gq;omega
 ·have:=nP h6;unfold jq gq;omega
 ·intro c hc
  have:=hW i x hx' c hc
  unfold jq gq;omega
theorem W_ {T:Tr}(h:¬ 0≤outT T):∀ x ∈ T.nodes,Mist.sized T x=true:=by
 have h2:=Io T;rw [aaV h] at h2
 have h3:T.nodes.all (Mist.sized T)=true:=by simpa using h2.symm
 exact aaR.1 h3
theorem MK {T:Tr}(h:(iy T).2=0):Mist.large T=false∧¬ 30 < om T∧¬ 0≤outT T:=by
 unfold iy at h
 split at h
 ·cases h
 ·rename_i h1
  split at h
  ·cases h
  ·rename_i h2
   exact⟨by simpa using fun h=>h1 (.inl h),fun h=>h1 (.inr h),h2⟩
theorem ML {T:Tr}(hA:jN T.nodes)(hW:Wf T.nodes)(hF:Fo T.nodes 0 T.nodes.length T.items)(hI:∀ a ∈ T.items,pI (dB T.nodes a)=true)(hE:(iy T).2=0):dN T=0∧xO T.nodes:=by
 obtain⟨hl,hd,ho⟩:=MK hE
 have hlen:T.nodes.length≤800:=by
  have:¬ 800 < T.nodes.length:=fun h=>by unfold Mist.large at hl;rw [aaU h] at hl;simp at hl
  omega
 have hR:=Sv hA hW (W_ ho) (by omega);obtain⟨f1,f2,f3⟩:=(Ce T (fun n hn=>(hR n hn).num) (by omega)).2 (MO hA hF hI)
 refine⟨?_,hR⟩
 unfold dN;rw [if_neg (by rw [hl];decide),if_neg (by rw [f1];decide),if_neg (by rw [f2,f3];simp),if_neg hd,if_neg ho]
theorem KH (i:Int):∀ (ks P:List Int) (j:Nat),(∀ k ∈ ks,0≤k∧k < (P.length:Int))→(um i ks P).getD j 0=if (j:Int) ∈ ks then i else P.getD j 0
 | [],P,j,_=>by simp [um]
 | k :: r,P,j,h=>by
  rw [um,KH i r _ j (fun x hx=>by rw [List.length_set];exact h x (List.mem_cons_of_mem _ hx)),lU];have h0:=h k (List.mem_cons_self ..);by_cases h1:(j:Int) ∈ r
  ·rw [if_pos h1,if_pos (List.mem_cons_of_mem _ h1)]
  ·rw [if_neg h1];by_cases h2:k.toNat=j
   ·rw [if_pos ⟨h2,by omega⟩,if_pos (by rw [show (j:Int)=k by omega];exact List.mem_cons_self ..)]
   ·rw [if_neg (fun h=>h2 h.1),if_neg];intro h3;rcases List.mem_cons.1 h3 with h4 | h4
    ·omega
    ·exact h1 h4
theorem Cz {ns:List Nd}(hW:Wf ns):∀ k,k≤ns.length→∀ j,j < k→((wH ns k).getD j 0=-1∧∀ m x,m < k→ns[m]? = some x→(j:Int) ∉ x.kids)∨∃ m x,m < k∧ns[m]? = some x∧(j:Int) ∈ x.kids∧(wH ns k).getD j 0=(m:Int)
 | 0,_,j,hj=>by omega
 | k+1,hk,j,hj=>by
  obtain⟨x,hx⟩:∃ x,ns[k]? = some x:=⟨_,aaD (by omega)⟩;have hks:=hW k x hx
  have e:(wH ns (k+1)).getD j 0=if (j:Int) ∈ x.kids then (k:Int) else ((wH ns k).set k (-1)).getD j 0:=by
   rw [wH,KJ,hx];exact KH _ _ _ _ (fun c hc=>by rw [List.length_set,qI];have:=hks c hc;omega)
  rw [e];by_cases h1:(j:Int) ∈ x.kids
  ·rw [if_pos h1];exact .inr ⟨k,x,by omega,hx,h1,rfl⟩
  ·rw [if_neg h1,lU];by_cases h2:k=j
   ·subst h2;rw [if_pos ⟨rfl,by rw [qI];omega⟩];refine .inl ⟨rfl,fun m y hm hy hc=>?_⟩
    have:=hW m y hy _ hc
    omega
   ·rw [if_neg (fun h=>h2 h.1)];rcases Cz hW k (by omega) j (by omega) with ⟨h3,h4⟩ | ⟨m,y,h3,h4,h5,h6⟩
    ·refine .inl ⟨h3,fun m y hm hy hc=>?_⟩;rcases Nat.lt_or_ge m k with h7 | h7
     ·exact h4 m y h7 hy hc
     ·obtain rfl:m=k:=by omega
      rw [hx] at hy;cases hy
      exact h1 hc
    ·exact .inr ⟨m,y,by omega,h4,h5,h6⟩
theorem Ef {ns:List Nd}{qs:List Int}(hW:Wf ns)(hf:Fo ns 0 ns.length qs){j m:Nat}{x:Nd}(hx:ns[m]? = some x)(hc:(j:Int) ∈ x.kids):(cZ ns).getD j 0=(m:Int):=by
 have hm:=(aaE.1 hx).1;have hj:=hW m x hx _ hc;rcases Cz hW ns.length (aaJ _) j (by omega) with ⟨_,h4⟩ | ⟨m',y,h3,h4,h5,h6⟩
 ·exact absurd hc (h4 m x hm hx)
 ·rw [Fo.Ae hf hm h3 hx h4 hc h5];exact h6
theorem kid_par {ns:List Nd}(hW:Wf ns){j m:Nat}(hj:j < ns.length)(h:(cZ ns).getD j 0=(m:Int)):∃ x,ns[m]? = some x∧(j:Int) ∈ x.kids:=by
 rcases Cz hW ns.length (aaJ _) j hj with ⟨h3,_⟩ | ⟨m',y,h3,h4,h5,h6⟩
 ·unfold cZ at h;omega
 ·have:m'=m:=by unfold cZ at h;omega
  subst this;exact⟨y,h4,h5⟩
theorem UC {ns:List Nd}{qs:List Int}(hW:Wf ns)(hf:Fo ns 0 ns.length qs){r:Nat}(hr:(r:Int) ∈ qs):(cZ ns).getD r 0=-1:=by
 have hi:=hf.ids _ hr;rcases Cz hW ns.length (aaJ _) r (by omega) with ⟨h3,_⟩ | ⟨m',y,h3,h4,h5,h6⟩
 ·exact h3
 ·exact absurd hr (hf.apart m' y (aaL _) h3 h4 _ h5)
theorem Qb {P:List Int}(hP:xH P):∀ (f n:Nat),n < P.length→P.length≤n+f→zJ P (f+1) (n:Int)=zJ P f (n:Int)
 | 0,n,h1,h2=>by omega
 | f+1,n,h1,h2=>by
  rw [tC (f:=f+1) (n:=n),tC (f:=f) (n:=n)]
  congr 1
  rcases hP n h1 with h | ⟨h3,h4⟩
  ·rw [h,Dn,Dn]
  ·obtain⟨m,hm⟩:∃ m:Nat,P.getD n 0=(m:Int):=⟨(P.getD n 0).toNat,by omega⟩;rw [hm];exact Qb hP f m (by omega) (by omega)
def AZ (P:List Int)(n:Nat):List Nat:=zJ P (P.length+1) (n:Int)
theorem Dp {P:List Int}{n:Nat}(h:P.getD n 0=-1):AZ P n=[n]:=by
 unfold AZ;rw [tC,h,Dn]
theorem FQ {P:List Int}(hP:xH P){n m:Nat}(h:P.getD n 0=(m:Int))(hm:m < P.length):AZ P n=n :: AZ P m:=by
 unfold AZ;rw [tC (f:=P.length) (n:=n),h,Qb hP P.length m hm (by omega)]
theorem UQ {P:List Int}{n:Nat}:0 < (AZ P n).length:=by
 unfold AZ;rw [tC];simp
theorem J_ (v:Nat):∀ (ks:List Int) (D:List Nat) (j:Nat),(∀ k ∈ ks,0≤k∧k < (D.length:Int))→(tV v ks D).getD j 0=if (j:Int) ∈ ks then v+1 else D.getD j 0
 | [],D,j,_=>by simp [tV]
 | k :: r,D,j,h=>by
  rw [tV,J_ v r _ j (fun x hx=>by rw [List.length_set];exact h x (List.mem_cons_of_mem _ hx)),qD];have h0:=h k (List.mem_cons_self ..);by_cases h1:(j:Int) ∈ r
  ·rw [if_pos h1,if_pos (List.mem_cons_of_mem _ h1)]
  ·rw [if_neg h1];by_cases h2:k.toNat=j
   ·rw [if_pos ⟨h2,by omega⟩,if_pos (by rw [show (j:Int)=k by omega];exact List.mem_cons_self ..)]
   ·rw [if_neg (fun h=>h2 h.1),if_neg];intro h3;rcases List.mem_cons.1 h3 with h4 | h4
    ·omega
    ·exact h1 h4
def DInv (ns:List Nd)(k:Nat)(D:List Nat):Prop:=D.length=ns.length∧∀ j,j < ns.length→D.getD j 0=if k≤j∨(k:Int)≤(cZ ns).getD j 0 then (AZ (cZ ns) j).length else 0
theorem Vn {ns:List Nd}{qs:List Int}(hW:Wf ns)(hf:Fo ns 0 ns.length qs){i:Nat}{D:List Nat}(hi:i < ns.length)(h:DInv ns (i+1) D):DInv ns i (qy ns i D):=by
 obtain⟨hG,Fb⟩:=nL hW;obtain⟨x,hx⟩:∃ x,ns[i]? = some x:=⟨_,aaD hi⟩;have hks:=hW i x hx
 have hone:∀ j,j < ns.length→(nD i D).getD j 0=if j=i then (AZ (cZ ns) i).length else D.getD j 0:=by
  intro j hj;have hDi:=h.2 i hi;have hp:=hG i (by rw [Fb];exact hi);unfold nD;rcases hp with h1 | ⟨h1,_⟩
  ·rw [if_neg (by omega)] at hDi
   rw [if_pos hDi,qD,Dp h1];by_cases h2:j=i
   ·rw [if_pos ⟨h2.symm,by rw [h.1];exact hj⟩,if_pos h2];rfl
   ·rw [if_neg (fun h3=>h2 h3.1.symm),if_neg h2]
  ·rw [if_pos (by omega)] at hDi
   have:=UQ (P:=cZ ns) (n:=i)
   rw [if_neg (by omega)];by_cases h2:j=i
   ·subst h2;rw [if_pos rfl,hDi]
   ·rw [if_neg h2]
 refine⟨by rw [Ke];exact h.1,fun j hj=>?_⟩
 have e:(qy ns i D).getD j 0=if (j:Int) ∈ x.kids then (nD i D).getD i 0+1 else (nD i D).getD j 0:=by
  unfold qy;rw [hx];exact J_ _ _ _ _ (fun c hc=>by rw [xV,h.1];have:=hks c hc;omega)
 rw [e];by_cases h1:(j:Int) ∈ x.kids
 ·have hp:=Ef hW hf hx h1;rw [if_pos h1,if_pos (.inr (by omega)),hone i hi,if_pos rfl,FQ hG hp (by rw [Fb];exact hi)];rfl
 ·rw [if_neg h1,hone j hj];by_cases h2:j=i
  ·subst h2;rw [if_pos rfl,if_pos (.inl (aaJ _))]
  ·rw [if_neg h2,h.2 j hj]
   have h3:(cZ ns).getD j 0 ≠ (i:Int):=fun h9=>by
    obtain⟨y,hy,hk⟩:=kid_par hW hj h9;rw [hx] at hy;cases hy
    exact h1 hk
   by_cases h4:i+1≤j∨((i+1:Nat):Int)≤(cZ ns).getD j 0
   ·rw [if_pos h4,if_pos (by omega)]
   ·rw [if_neg h4,if_neg (by omega)]
theorem NR {ns:List Nd}{qs:List Int}(hW:Wf ns)(hf:Fo ns 0 ns.length qs):∀ (k:Nat) (D:List Nat),k≤ns.length→DInv ns k D→DInv ns 0 (Rq ns k D)
 | 0,_,_,h=>h
 | k+1,D,hk,h=>NR hW hf k _ (by omega) (Vn hW hf (by omega) h)
theorem Kl {ns:List Nd}{qs:List Int}(hW:Wf ns)(hf:Fo ns 0 ns.length qs){j:Nat}(hj:j < ns.length):(f_ ns).getD j 0=(AZ (cZ ns) j).length:=by
 obtain⟨hG,Fb⟩:=nL hW
 have h:=(NR hW hf ns.length (List.replicate ns.length 0) (aaJ _) ⟨by simp,fun i hi=>by
  have hp:=hG i (by rw [Fb];exact hi);rw [Fb] at hp
  rw [if_neg (by omega),aaH,List.getElem?_replicate];simp [hi]⟩).2 j hj
 rw [if_pos (.inl (aaL _))] at h
 exact h
inductive Up (ns:List Nd):Nat→Nat→Prop
 | refl (i:Nat):Up ns i i
 | step {i j r:Nat} {x:Nd} (e:ns[j]? = some x) (h:(i:Int) ∈ x.kids) (k:Up ns j r):Up ns i r
theorem Up.more {ns:List Nd}{i r b:Nat}{n:Nd}(h:Up ns i r)(e:ns[b]? = some n)(k:(r:Int) ∈ n.kids):Up ns i b:=by
 induction h with
 | refl=>exact .step e k (.refl _)
 | step e' h' _ ih=>exact .step e' h' (ih k)
theorem fo_up {ns:List Nd}{a b:Nat}{qs:List Int}(h:Fo ns a b qs):∀ i,a≤i→i < b→∃ (q r:Nat),qs[q]? = some (r:Int)∧i≤r∧(∀ (q':Nat) c,q' < q→qs[q']? = some c→c < (i:Int))∧Up ns i r:=by
 induction h with
 | nil=>intro i h1 h2;omega
 | @snoc a m b qs n h k e ih jh =>
  intro i h1 h2;have hlast:(qs ++ [(b:Int)])[qs.length]? = some (b:Int):=by simp
  have hbelow:m≤i→∀ (q':Nat) c,q' < qs.length→(qs ++ [(b:Int)])[q']? = some c→c < (i:Int):=by
   intro hm q' c hq hc;rw [List.getElem?_append_left hq] at hc
   have:=h.ids c (aaM hc)
   omega
  rcases Nat.lt_or_ge i m with h3 | h3
  ·obtain⟨q,r,g1,g2,g3,g4⟩:=ih i h1 h3;have hq:=(aaE.1 g1).1
   refine⟨q,r,by rw [List.getElem?_append_left hq];exact g1,g2,fun q' c hq' hc=>?_,g4⟩
   rw [List.getElem?_append_left (by omega)] at hc
   exact g3 q' c hq' hc
  ·rcases Nat.lt_or_ge i b with h4 | h4
   ·obtain⟨q,r,g1,g2,g3,g4⟩:=jh i h3 h4;exact⟨qs.length,b,hlast,by omega,hbelow h3,g4.more e (aaM g1)⟩
   ·obtain rfl:i=b:=by omega
    exact⟨qs.length,i,hlast,aaJ _,hbelow h3,.refl _⟩
theorem up_last {ns:List Nd}{qs:List Int}(hW:Wf ns)(hf:Fo ns 0 ns.length qs){i r:Nat}(h:Up ns i r):(cZ ns).getD r 0=-1→(AZ (cZ ns) i).getLast? = some r:=by
 obtain⟨hG,Fb⟩:=nL hW
 induction h with
 | refl=>intro hr;rw [Dp hr];rfl
 | @step i j r x e h k ih =>
  intro hr;rw [FQ hG (Ef hW hf e h) (by rw [Fb];exact (aaE.1 e).1),List.getLast?_cons,ih hr];rfl
theorem Un {ns:List Nd}{qs:List Int}(hW:Wf ns)(hf:Fo ns 0 ns.length qs){i:Nat}(hi:i < ns.length):∃ (q r:Nat),qs[q]? = some (r:Int)∧i≤r∧(∀ (q':Nat) c,q' < q→qs[q']? = some c→c < (i:Int))∧(AZ (cZ ns) i).getLast? = some r:=by
 obtain⟨q,r,g1,g2,g3,g4⟩:=fo_up hf i (aaL _) hi;exact⟨q,r,g1,g2,g3,up_last hW hf g4 (UC hW hf (aaM g1))⟩
theorem zB {l:List Int}{q:Nat}{r k:Int}(hq:l[q]? = some r)(hr:k≤r)(hf:∀ (q':Nat) c,q' < q→l[q']? = some c→c < k):(l.findIdx fun c=>decide (k≤c))=q:=by
 obtain⟨hlt,he⟩:=aaE.1 hq;rw [List.findIdx_eq hlt]
 refine⟨by rw [he];exact aaU hr,fun j hj=>aaV ?_⟩
 have:=hf j _ hj (aaD (by omega))
 omega
theorem up_le {ns:List Nd}{qs:List Int}(hW:Wf ns)(hf:Fo ns 0 ns.length qs){B:Nat}(hB:∀ k ∈ qs,ab' ns B k):∀ (f j:Nat),j < ns.length→ns.length≤j+f→(AZ (cZ ns) j).length≤B∧ab' ns (B+1 - (AZ (cZ ns) j).length) (j:Int)
 | 0,j,hj,hl=>by omega
 | f+1,j,hj,hl=>by
  obtain⟨hP,hPl⟩:=nL hW;rcases hP j (by omega) with hp | ⟨h1,h2⟩
  ·have hu:=Dp hp;obtain⟨q,r,hq,_,_,hg⟩:=Un hW hf hj;rw [hu] at hg ⊢
   obtain rfl:j=r:=by simpa using hg
   have ht:=hB _ (aaM hq)
   cases B with
   | zero=>exact ht.elim
   | succ B=>exact⟨by simp,by simpa using ht⟩
  ·obtain⟨m,hm⟩:∃ m:Nat,(cZ ns).getD j 0=(m:Int):=⟨((cZ ns).getD j 0).toNat,by omega⟩;rw [hm] at h1 h2
   obtain⟨x,hx,hk⟩:=kid_par hW hj hm;obtain⟨i1,i2⟩:=up_le hW hf hB f m (by omega) (by omega);rw [FQ hP hm (by omega),List.length_cons];obtain⟨c,hc⟩:∃ c,B+1 - (AZ (cZ ns) m).length=c+1:=⟨B - (AZ (cZ ns) m).length,by omega⟩;rw [hc] at i2
   obtain⟨_,y,hy,hys⟩:=i2;rw [aaQ,hx] at hy
   cases hy;have ht:=hys _ hk;have ec:B+1 - ((AZ (cZ ns) m).length+1)=c:=by omega
   rw [ec]
   cases c with
   | zero=>exact ht.elim
   | succ c=>exact⟨by omega,ht⟩
theorem maxOf_le:∀ (l:List Nat) (M:Nat),l ≠ []→(∀ d ∈ l,d≤M)→Lib.maxOf (l.map fun (d:Nat)=>(d:Int))≤(M:Int):=by
 have fold:∀ (l:List Nat) (a M:Nat),a≤M→(∀ d ∈ l,d≤M)→(l.map fun (d:Nat)=>(d:Int)).foldl max (a:Int)≤(M:Int):=by
  intro l
  induction l with
  | nil=>intro a M ha _;show (a:Int)≤_;omega
  | cons d r ih =>
   intro a M ha hd;have hdM:=hd d (List.mem_cons_self ..);have e:max (a:Int) (d:Int)=((max a d:Nat):Int):=by omega
   show (r.map fun (d:Nat)=>(d:Int)).foldl max (max (a:Int) (d:Int))≤_
   rw [e];exact ih (max a d) M (by omega) (fun x hx=>hd x (List.mem_cons_of_mem _ hx))
 intro l M h hd
 cases l with
 | nil=>exact absurd rfl h
 | cons a r =>
  show ((a :: r).map fun (d:Nat)=>(d:Int)).foldl max (a:Int)≤_
  exact fold (a :: r) a M (hd a (List.mem_cons_self ..)) hd
theorem deep_le {T:Tr}(hW:Wf T.nodes)(hf:Fo T.nodes 0 T.nodes.length T.items){B:Nat}(hB:∀ k ∈ T.items,ab' T.nodes B k):om T≤(B:Int):=by
 unfold om jB;split
 ·omega
 ·rename_i h0
  have hdl:(f_ T.nodes).length=T.nodes.length:=by unfold f_;rw [uV,List.length_replicate]
  refine maxOf_le _ _ (fun e=>by rw [e] at hdl;exact h0 hdl.symm) (fun d hd=>?_);obtain⟨j,hj,rfl⟩:=List.getElem_of_mem hd
  have:=Kl hW hf (j:=j) (by omega)
  rw [aaH,aaD hj,Option.getD_some] at this
  rw [this];exact (up_le hW hf hB T.nodes.length j (by omega) (by omega)).1
structure dX (T:Tr):Prop where
 ok:jN T.nodes
 wf:Wf T.nodes
 fo:Fo T.nodes 0 T.nodes.length T.items
 it:∀ a ∈ T.items,pI (dB T.nodes a)=true
 sz:∀ x ∈ T.nodes,Mist.sized T x=true
 ht:∀ k ∈ T.items,ab' T.nodes 11 k
 few:T.nodes.length≤800
 itf:T.items.length≤12
section
variable {T:Tr} (h:dX T)
include h
theorem dX.large:Mist.large T=false:=by
 have h1:=h.few;have h2:=h.itf;unfold Mist.large;rw [aaV (by omega),aaV (by omega)];rfl
theorem dX.out:¬ 0≤outT T:=by
 have h1:=Io T;rw [aaR.2 h.sz] at h1
 simpa using h1
theorem dX.parsed:iy T=(0,0):=by
 have hd:=deep_le h.wf h.fo h.ht;unfold iy;rw [if_neg (by rintro (e | e);(rw [h.large] at e;cases e);omega),if_neg h.out]
theorem dX.check:dN T=0∧xO T.nodes:=ML h.ok h.wf h.fo h.it (by rw [h.parsed])
theorem dX.good:BD T:=by
 have hl:=h.few
 have node:∀ x ∈ T.nodes,x.kids.length≤1000000∧nJ T x:=fun x hm=>by
  obtain⟨i,hil,hix⟩:=List.mem_iff_getElem.1 hm;obtain⟨h1,h2,h3⟩:=yJ (T:=T) h.ok h.wf h.fo (i:=i) (x:=x) (by rw [← hix];exact aaD hil);exact⟨by omega,h3⟩
 exact⟨h.wf,fun x hm=>(node x hm).2,fun x hm=>(node x hm).1,by omega⟩
end
theorem own_fine (wild:Bool)(b:Bs)(h:grownOk (grownText wild b)=true):dX (grownTree wild b):=by
 have g:=grown_sg wild b;have hg:=grown_small wild b;have hi:=growG_ix wild 12 ⟨[],[],⟨b,[]⟩⟩;have hl:=pcs_len (grown wild b).pc [] (grown_good wild b []);unfold grownOk grownText at h
 rw [aaS,decide_eq_true_iff,decide_eq_true_iff] at h
 obtain⟨_,h2⟩:=h;rw [List.filter_append,aaO] at h2
 have hf:=hg.few
 refine⟨g.ok,g.wf,g.fo,g.all,fun x hx=>(hg.sz x hx).sized,hg.ht,by omega,?_⟩
 have hi:(grown wild b).ix.length≤0+12:=hi
 show (grown wild b).ix.length≤12
 omega
theorem Xi (wb N nd:Nat)(P S:List Int)(tv iv:Value)(w:World)(hW:qW w wb tv iv N S P)(hS:S.length=N)(hnd:nd < N) :
  Calls Tryz.prog 78 #[.pointer (some ⟨wb,0,none⟩),.int .i64 (nd:Int)] w fun e w'=>e=.returned (.int .i64 (S.getD nd 0))∧Below w.heap.size w w':=by
 obtain⟨sb,pb,h1,h2,h3,h4⟩:=hW.ex;have x2:=h1.cell 2;have s0:w.cell? ⟨sb,nd,none⟩=some (.int .i64 (S.getD nd 0)):=(h2.cell nd).trans (nE S nd (by omega));have z0:(0:Int)≤(nd:Int):=by omega
 have z1:(nd:Int) < (N:Int):=by omega
 clear h1 h2 h3 h4 hW hS;go_in
 go_wp2_with fail;go_ret;exact⟨rfl,Below.refl _ _⟩
theorem Qh (wb N nd:Nat)(P S:List Int)(tv iv:Value)(w:World)(hW:qW w wb tv iv N S P)(hP:P.length=N)(hnd:nd < N) :
  Calls Tryz.prog 79 #[.pointer (some ⟨wb,0,none⟩),.int .i64 (nd:Int)] w fun e w'=>e=.returned (.int .i64 (P.getD nd 0))∧Below w.heap.size w w':=by
 obtain⟨sb,pb,h1,h2,h3,h4⟩:=hW.ex;have x2:=h1.cell 3;have s0:w.cell? ⟨pb,nd,none⟩=some (.int .i64 (P.getD nd 0)):=(h3.cell nd).trans (nE P nd (by omega));have z0:(0:Int)≤(nd:Int):=by omega
 have z1:(nd:Int) < (N:Int):=by omega
 clear h1 h2 h3 h4 hW hP;go_in
 go_wp2_with fail;go_ret;exact⟨rfl,Below.refl _ _⟩
theorem Tz (wb N nd:Nat)(P S:List Int)(tv iv:Value)(w:World)(hW:qW w wb tv iv N S P)(hP:xH P)(hN:P.length=N)(hN6:N≤100000)(hnd:nd < N) :
  Calls Tryz.prog 73 #[.pointer (some ⟨wb,0,none⟩),.int .i64 (nd:Int)] w fun e w'=>e=.returned (.int .i64 ((AZ P nd).length:Int))∧Below w.heap.size w w':=by
 have HPT:=hid (MP wb N nd P S tv iv w hW hP hN hN6 hnd);have HU:=hid (show zJ P (N+1) (nd:Int)=AZ P nd by unfold AZ;rw [hN]);rw [HU.out] at HPT
 clear hW hP hN hnd;go_in
 go_wp2_with fail;refine HPT.out.mono ?_;rintro e w2⟨hb,g,c,rfl,_,_⟩;go_wp2_with fail;go_ret;exact⟨rfl,hb⟩
theorem OB {zs:List Int}{q:Nat}{x:Int}(hq:zs[q]? = some x)(hb:∀ (q':Nat) c,q' < q→zs[q']? = some c→c ≠ x):Lib.idxOf zs x=(q:Int):=by
 have hlt:=(aaE.1 hq).1
 have h:=Lib.idxFrom_hit x zs q 0 hlt (by rw [aaH,hq];rfl) (fun j hj=>by
  rw [aaH,aaD (by omega)];exact hb j _ hj (aaD (by omega)))
 unfold Lib.idxOf;rw [h,Nat.zero_add]
theorem Xh (wb N nd q r d:Nat)(P S:List Int)(tv:Value)(B:Option Addr)(its:List Int)(w:World)(hW:qW w wb tv (.slice B its.length d) N S P)(hP:xH P)(hN:P.length=N)(hN6:N≤100000)(hnd:nd < N)(hI:IntsIn w B its)(hi:its.length≤100000)
  (hq:its[q]? = some (r:Int)) (hf:∀ (q':Nat) c,q' < q→its[q']? = some c→c < (nd:Int)) (hr:nd≤r) (hl:(AZ P nd).getLast? = some r) :
  Calls Tryz.prog 82 #[.pointer (some ⟨wb,0,none⟩),.int .i64 (nd:Int)] w fun e w'=>e=.returned (.int .i64 (q:Int))∧Below w.heap.size w w':=by
 have HPT:=hid fun W (hb:Below w.heap.size w W)=>MP wb N nd P S tv (.slice B its.length d) W (hW.below hb) hP hN hN6 hnd
 have HU:=hid (show zJ P (N+1) (nd:Int)=AZ P nd by unfold AZ;rw [hN]);rw [HU.out] at HPT
 obtain⟨sb,pb,h1,h2,h3,h4⟩:=hW.ex;have HW:=hid h1;obtain⟨bi,oi,rfl,hbi,hci⟩:=hI.ex (by have:=(aaE.1 hq).1;omega);have HC:=hid hci
 have HX:=hid (show Lib.idxOf its (r:Int)=(q:Int) by
  exact OB hq (fun q' c hq' hc=>by have:=hf q' c hq' hc;omega))
 have HH:=hid (show (AZ P nd).reverse[0]? = some r by rw [← List.head?_eq_getElem?,List.head?_reverse,hl]);have HPO:=hid (UQ (P:=P) (n:=nd));have x1:=h1.cell 1;clear h1 h2 h3 h4 hW hP hN hnd hci hq hf hr hl hI;go_in
 go_wp2_with fail;have hi2:its.length≤9223372036854775807:=by omega
 obtain⟨L,hL⟩:∃ L,L=(AZ P nd).length:=⟨_,rfl⟩;rw [← hL] at HPT HPO
 have z0:(0:Int) < (L:Int):=by have:=HPO.out;omega
 clear hL
 go_region_with (first
   | (go_at_call 81;refine (HPT.out _ (by repeat (first|(with_reducible exact Below.refl _ _)|(with_reducible refine Below.drew ?_)))).mono ?_;rintro e w4⟨hb4,g,cp,rfl,hg4,hcs⟩;have qx:=hid (show Below w.heap.size w w4 from Below.trans (Below.drew (Below.refl _ _)) hb4);clear x1;have x1:=(HW.out.below qx.out HW.out.lt).cell 1;have g0:=hcs 0 r HH.out;clear hb4 hcs)
   | (go_at_call 122;refine (Tryz.slices_Index_int bi oi its.length d its (r:Int) _ (aaJ _) hi2 (fun j hj=>(Below.cell (by repeat (first|(with_reducible exact qx.out)|(with_reducible refine Below.drew ?_))) (by exact hbi)).trans (by rw [aaH,aaD hj];exact HC.out j _ (aaD hj)))).mono ?_;rintro e w5⟨rfl,rfl⟩))
 all_goals
  go_wp2_with fail;go_ret
  refine⟨by rw [HX.out];first | done | rfl,?_⟩
  repeat (first|(with_reducible exact qx.out)|(with_reducible refine Below.drew ?_))
end Go.Proofs.YthepmkjggfijoaaGreatDoor
