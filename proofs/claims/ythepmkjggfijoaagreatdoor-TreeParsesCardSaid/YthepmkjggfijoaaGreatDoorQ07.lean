/-
  A part of the proof.
-/
import Derived.Test.YthepmkjggfijoaaGreatDoorSA
import Derived.Test.YthepmkjggfijoaaGreatDoorQ06
set_option linter.all false
set_option maxRecDepth 100000
set_option maxHeartbeats 2000000
open Go.Lib (hid)
namespace Go.Proofs.YthepmkjggfijoaaGreatDoor
open Go.RowKit Mist
attribute [local go_sem] aj aH aS aB ak
theorem Uz {l:List Tok}{n:Nat}{at_:Int}{s s':RS}{qs:List Int}(h:JF l n at_ s=some (qs,s')):To l s s':=by
 unfold JF at h
 split at h
 ·obtain⟨rfl,rfl⟩:=dY h;exact To.refl.fail
 ·rename_i h0
  have ha:To l s s.dR:=To.refl.dR (x:=s.next l) rfl (fun e=>h0 (by rw [e];rfl));split at h
  ·obtain⟨rfl,rfl⟩:=bn h;exact ha.put _
  ·split at h
   ·obtain⟨a,t,r,h⟩:=aF h;obtain⟨rfl,rfl⟩:=bn h;exact (ha.trans (bG _ _ _ _ _ r)).put _
   ·obtain⟨a,t,r,h⟩:=aF h;obtain⟨rfl,rfl⟩:=bn h;exact (ha.trans (bG _ _ _ _ _ r)).put _
theorem Po {l:List Tok}{s t:RS}{a:List Int}(h:some (rz l s)=some (a,t)):To l s t:=by
 have h1:=UA (l:=l) s;injection h with h
 rw [h] at h1
 exact h1
theorem EO {l:List Tok}{n:Nat}{x:Bs}{at_:Int}{ps:List Int}{s s':RS}{qs:List Int}(h:iW l n x at_ ps s=some (qs,s')):To l s s':=by
 unfold iW at h
 obtain⟨t,t1,r1,h⟩:=aF h;obtain⟨b,t2,r2,h⟩:=aF h;obtain⟨rfl,rfl⟩:=bn h;have h1:=((To.refl (s:=s)).take (l:=l) (x:=[41]) (by simp)).take (x:=[58]) (by simp);exact ((((h1.trans (bG _ _ _ _ _ r1)).trans (aa_ t1)).take (x:=[61]) (by simp)).trans (bG _ _ _ _ _ r2)).put _
theorem SN {l:List Tok}{n:Nat}{at_:Int}{x:Bs}{s s':RS}{qs:List Int}:∀ {i:It},d9 l n at_ x i s=some (qs,s')→To l s s'
 | .choose,h=>by
  unfold d9 at h;dsimp only at h
  obtain⟨a,t,r,h⟩:=aF h;obtain⟨b,t2,r2,h⟩:=aF h;obtain⟨rfl,rfl⟩:=bn h;exact (((((To.refl (s:=s)).take (l:=l) (x:=[58]) (by simp)).trans (Po r)).take (x:=[46,46]) (by simp)).trans (Po r2)).put _
 | .record,h=>by
  unfold d9 at h;dsimp only at h
  obtain⟨a,t,r,h⟩:=aF h;obtain⟨rfl,rfl⟩:=bn h;exact (((((To.refl (s:=s)).take (l:=l) (x:=[61]) (by simp)).take (x:=[123]) (by simp)).trans (bG _ _ _ _ _ r)).take (x:=[125]) (by simp)).put _
 | .zu,h=>by
  unfold d9 at h;dsimp only at h
  have h1:=(To.refl (s:=s)).take (l:=l) (x:=[40]) (by simp);split at h
  ·exact h1.trans (EO h)
  ·obtain⟨a,t,r,h⟩:=aF h;exact (h1.trans (bG _ _ _ _ _ r)).trans (EO h)
 | .yB,h=>by
  unfold d9 at h;dsimp only at h
  obtain⟨a,t,r,h⟩:=aF h;obtain⟨rfl,rfl⟩:=bn h;exact (((To.refl (s:=s)).take (l:=l) (x:=[61]) (by simp)).trans (bG _ _ _ _ _ r)).put _
 | .observe,h=>by
  unfold d9 at h;dsimp only at h
  obtain⟨a,t,r,h⟩:=aF h;obtain⟨rfl,rfl⟩:=bn h;exact (((To.refl (s:=s)).take (l:=l) (x:=[58]) (by simp)).trans (bG _ _ _ _ _ r)).put _
 | .kW,h=>by
  unfold d9 at h;dsimp only at h
  obtain⟨rfl,rfl⟩:=bn h;exact To.refl.put _
 | .ask,h=>by unfold d9 at h;cases h
theorem Pq {l:List Tok}{n:Nat}{s s':RS}{qs:List Int}(h:C9 l n s=some (qs,s')):To l s s'∧(s'.bad=true∨s.k < s'.k):=by
 unfold C9 at h
 split at h
 ·rename_i ck
  have hk:=(Da (l:=l) (s:=s) (by rw [ck];simp)).2;have ha:To l s s.dR:=To.adv1 hk;split at h
  ·exact⟨ha.trans (Uz h),.inr (Uz h).k⟩
  ·have h2:To l s.dR (s.dR.word l 1).2:=To.refl.word (by simp);have h3:=h2.trans (SN h);exact⟨ha.trans h3,.inr h3.k⟩
  ·obtain⟨rfl,rfl⟩:=dY h;exact⟨To.refl.fail,.inl rfl⟩
 ·obtain⟨rfl,rfl⟩:=dY h;exact⟨To.refl.fail,.inl rfl⟩
theorem Pw {l:List Tok}{n:Nat}{r:List Int}{s':RS}:∀ (m:Nat) (s:RS) (its:List Int),nM l n m s its=some (r,s')→To l s s'
 | 0,_,_,h=>by cases h
 | m+1,s,its,h=>by
  rw [nM] at h
  split at h
  ·obtain⟨a,t,e,h⟩:=aF h;exact ((Pq e).1.take (x:=[59]) (by simp)).trans (Pw m _ _ h)
  ·obtain⟨rfl,rfl⟩:=dY h;exact To.refl
theorem KU {l:List Tok}{s:RS}{x:Bs}(h:(s.take l x).bad=false):s.bad=false:=by
 unfold RS.take at h
 split at h
 ·exact h
 ·cases h
section
variable {g:Nat} {tv:Value} {l:List Tok} {iv:Value} {w:World} {s:RS} {xs:List NV} {nv:Value}
theorem QS.items (h:QS g tv l iv w s xs nv)(u:Value):QS g tv l u (w.setCell ⟨g,3,none⟩ u) s xs nv :=
 have m:Mv g nv.ownBlock w nv.ownBlock _:=Mv.d_ h.blk 3 u
 ⟨(show aC _ g _ #[tv,.int .i64 (s.k:Int),nv,u,.bool s.bad] from by have:=h.blk.d_ 3 u;simpa using this),ownsRow_setCell_other h.own (aT h.own h.blk (by decide)) _,fun x hx=>h.l6 m (h.kids x hx),h.toks.below (h.low m),h.ns,h.le⟩
theorem QS.mv3 (h:QS g tv l iv w s xs nv)(v:Value):Mv g nv.ownBlock w nv.ownBlock (w.setCell ⟨g,3,none⟩ v):=Mv.d_ h.blk 3 v
def pOf (l:List Tok)(g:Nat)(w:World):Nat:=2 * XA l g w+(match w.cell? ⟨g,4,none⟩ with
 | some (.bool false)=>1
 | _=>0)
theorem Uw (h:QS g tv l iv w s xs nv)(hb:s.bad=true):pOf l g w=2 * (l.length - s.k):=by
 have c1:=h.blk.cell 4;unfold pOf;rw [iK h,c1];simp [hb]
theorem OY (h:QS g tv l iv w s xs nv)(hb:s.bad=false):pOf l g w=2 * (l.length - s.k)+1:=by
 have c1:=h.blk.cell 4;unfold pOf;rw [iK h,c1];simp [hb]
theorem pOf_le (h:QS g tv l iv w s xs nv):pOf l g w≤2 * (l.length - s.k)+1:=by
 cases hb:s.bad
 ·exact Nat.le_of_eq (OY h hb)
 ·rw [Uw h hb];omega
end
theorem aa4 (l:List Tok)(hl:l.length≤1000)(hT:∀ t ∈ l,t.text.length≤100000000)(n:Nat)(g:Nat)(tv:Value)(w:World)(s:RS)(xs:List NV)(nv:Value)(r:List Int)(s':RS)(m:Nat)(hr:nM l n m s []=some (r,s'))(hn:s'.ns.length≤100000)(h:QS g tv l (.slice none 0 0) w s xs nv) :
  Calls Tryz.prog 56 #[.pointer (some ⟨g,0,none⟩)] w fun e w'=>e=.returned (.tuple #[])∧∃ A c xs' eO,LR w w' xs' (.slice A r.length c) r∧QS g tv l (.slice A r.length c) w' s' xs' eO∧Mw g w xs nv w' xs' eO∧r.length≤1001:=by
 have H0:=hid h;have M0:=hid (Mw.refl (g:=g) (w:=w) (xs:=xs) (nv:=nv));have hg0:=h.lt;have HL:=hid (LR.nil w w xs);have htv:∃ At ct,tv=.slice At l.length ct:=by obtain⟨A,c,e,_⟩:=h.toks;exact⟨A,c,e⟩
 clear h;obtain⟨At,ct,htv⟩:=htv;have HTV:=hid htv;clear htv;have HR:=hid hr;clear hr;obtain⟨j0,hj0,hy0,hy1,hy2⟩:=info_parts gN;go_in
 go_wp2_with fail;go_loopw [2] (fun _ wr=>∃ (its:List Int) (A:Option Addr) (c:Nat) (s1:RS) (xs1:List NV) (gW:Value) (m1:Nat),its.length≤s1.k+1∧(s1.bad=false→its.length≤s1.k)∧Hid (nM l n m1 s1 its=some (r,s'))∧Hid (LR w wr xs1 (.slice A its.length c) its)∧Hid (QS g tv l (.slice A its.length c) wr s1 xs1 gW)∧Hid (Mw g w xs nv wr xs1 gW)) (fun _ wr=>pOf l g wr)
 case atStart=>exact⟨[],none,0,s,xs,nv,m,by simp,fun _=>by simp,HR,HL,H0,M0⟩
 case round =>
  clear HR HL H0 M0;obtain⟨wo,rfl⟩:∃ wo:World,wo=wr:=⟨_,rfl⟩;obtain⟨its,A,c,s1,xs1,gW,m1,hi1,hi2,HR,L,H0,M0⟩:=hrel;have HW:=H0;have hle1:=H0.out.le;rcases m1 with _ | m1
  ·exact absurd HR.out (by simp [nM])
  have hr:=HR.out;rw [nM] at hr
  clear HR;have c0:=H0.out.blk.cell 0;have c1:=H0.out.blk.cell 1;have c4:=H0.out.blk.cell 4;rw [HTV.out] at c0
  by_cases hc:s1.bad=false∧s1.k < l.length
  ·rw [if_pos hc] at hr
   obtain⟨a,t1,r1,hr⟩:=aF hr;have hb1:t1.ns.length≤100000:=Nat.le_trans (((To.refl (s:=t1)).take (l:=l) (x:=[59]) (by simp)).trans (Pw _ _ _ hr)).few hn;have q1:decide ((s1.k:Int) < (l.length:Int))=true:=aaU (by omega);have q1':decide (s1.k < l.length)=true:=aaU hc.2;rw [hc.1] at c4
   have HB1:=hid hc.1;have hk1:=hc.2;have hi3:=hi2 hc.1;have HR:=hid hr;have HIT:=hid (Pq r1);have uM:=hid ((To.refl (s:=t1)).take (l:=l) (x:=[59]) (by simp)).k;have HR1:=hid r1;clear hr r1 hc hi2;obtain⟨iv,hiv⟩:∃ iv,iv=Value.slice A its.length c:=⟨_,rfl⟩;rw [← hiv] at L H0 HW
   have HIV:=hid hiv;clear hiv;go_wp2_with fail;go_quiet (fail)
   go_wp2_with fail;refine (q_item l hl hT n g tv iv _ _ _ _ _ _ HR1.out hb1 (H0.out.below (by repeat (first | exact Below.refl _ _ | refine Below.drew ?_ | refine gU ?_ _)))).mono ?_;rintro e Et⟨rfl,xs11,nv11,h,m⟩;have lF:=hid h;have M11:=hid ((M0.out.aL (by repeat (first | exact Below.refl _ _ | refine Below.drew ?_ | refine gU ?_ _))).trans m);have L11:=hid ((L.out.below (by repeat (first | exact Below.refl _ _ | refine Below.drew ?_ | refine gU ?_ _))).mw (H0.out.below (by repeat (first | exact Below.refl _ _ | refine Below.drew ?_ | refine gU ?_ _))) m);clear h m H0 M0 L c0 c1 c4;go_wp2_with fail;refine (fu g tv l iv _ _ _ _ [59] (by simp) lF.out hl).mono ?_;rintro e wQ⟨rfl,h,m⟩;have mh:=hid h;have qU:=hid (M11.out.kJ m)
   replace L11:=hid (L11.out.mv lF.out m)
   clear h m lF M11;rw [HIV.out] at mh L11
   have b3:=mh.out.blk.cell 3;have LA:=hid (L11.out.alloc (.cells #[.int .i64 (hd a)] 3));have HA:=hid (mh.out.alloc (.cells #[.int .i64 (hd a)] 3));have MA:=hid (qU.out.dD (o:=(.cells #[.int .i64 (hd a)] 3)));have hms:=MA.out.size;go_wp2_with (at_builtin;go_loud (refine wpList_append_lies _ rfl (.tmp 29) (.tmp 31) 24 rfl 0 3 j0 (.int .i64 0) 1 8 Tryz.underlying24 hj0 hy0 hy1 hy2 rfl (by decide) _ (its).length (intCells (its)) rfl LA.out.row ⟨wQ.heap.size,0,none⟩ 1 1 [.int .i64 (hd a)] rfl rfl (cell_one_new _ _ _) (by simp [Value.oneCell']) (by omega) (by simp only [maxLen];omega) (by omega) (aaL _) _ rfl ?_);intro gg13 Uf w13 hown hgrow hat hlt;have L112:=hid (LA.out.grow HA.out hown hat hms);have zx:=hid (HA.out.grow LA.out hgrow (fun b hb=>aaK (aaW hg0 (LA.out.lo b hb))));have Gd:=hid (MA.out.grow LA.out hgrow);have d3:=zx.out.blk.cell 3;have g3:=zx.out.blk.frozen 3;clear hown hgrow hat hlt)
   clear LA HA MA hms L11 mh qU;have HN:=hid (zx.out.items (.slice (some ⟨gg13,0,none⟩) (its.length+1) Uf));have MN:=hid (Gd.out.kJ (zx.out.mv3 (.slice (some ⟨gg13,0,none⟩) (its.length+1) Uf)));have LN:=hid (L112.out.mv zx.out (zx.out.mv3 (.slice (some ⟨gg13,0,none⟩) (its.length+1) Uf)));go_wp2_with fail
   refine⟨⟨its ++ [hd a],some ⟨gg13,0,none⟩,Uf,t1.take l [59],_,_,m1,?_,?_,HR,by rw [aaO];exact LN,by rw [aaO];exact HN,MN⟩,?_⟩
   ·rw [aaO,aaT];have h1:=HIT.out.1.k;have h2:=uM.out;omega
   ·intro hb;rw [aaO,aaT];have h2:=uM.out;rcases HIT.out.2 with h3 | h3
    ·rw [KU hb] at h3;cases h3
    ·omega
   ·rw [OY HW.out HB1.out];have h1:=HIT.out.1.k;have h2:=uM.out;rcases HIT.out.2 with h3 | h3
    ·cases hb:(t1.take l [59]).bad
     ·rw [KU hb] at h3;cases h3
     ·rw [Uw HN.out hb];omega
    ·have h4:=pOf_le HN.out;omega
  ·rw [if_neg hc] at hr
   obtain⟨rfl,rfl⟩:=dY hr;clear hr;have hlen:r.length≤1001:=by omega
   cases hbad:s'.bad
   ·have hkk:¬ s'.k < l.length:=fun h=>hc ⟨hbad,h⟩
    rw [hbad] at c4
    have q1:decide ((s'.k:Int) < (l.length:Int))=false:=aaV (by omega);have q1':decide (s'.k < l.length)=false:=aaV hkk;clear hc hbad hkk hi2;go_wp2_with fail;go_quiet (fail)
    go_wp2_with fail;go_end0
    exact⟨rfl,A,c,xs1,gW,L.out.below (by repeat (first | exact Below.refl _ _ | refine Below.drew ?_ | refine gU ?_ _)),H0.out.below (by repeat (first | exact Below.refl _ _ | refine Below.drew ?_ | refine gU ?_ _)),M0.out.aL (by repeat (first | exact Below.refl _ _ | refine Below.drew ?_ | refine gU ?_ _)),hlen⟩
   ·rw [hbad] at c4
    clear hc hbad hi2;go_wp2_with fail;go_quiet (fail)
    go_wp2_with fail;go_end0
    exact⟨rfl,A,c,xs1,gW,L.out.below (by repeat (first | exact Below.refl _ _ | refine Below.drew ?_ | refine gU ?_ _)),H0.out.below (by repeat (first | exact Below.refl _ _ | refine Below.drew ?_ | refine gU ?_ _)),M0.out.aL (by repeat (first | exact Below.refl _ _ | refine Below.drew ?_ | refine gU ?_ _)),hlen⟩
end Go.Proofs.YthepmkjggfijoaaGreatDoor
