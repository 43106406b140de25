/-
  A part of the proof.
-/
import Derived.Test.YthepmkjggfijoaaGreatDoorSA
import Derived.Test.YthepmkjggfijoaaGreatDoorS21
import Derived.Test.YthepmkjggfijoaaGreatDoorQ03
set_option linter.all false
set_option maxRecDepth 100000
set_option maxHeartbeats 2000000
open Go.Lib (hid)
namespace Go.Proofs.YthepmkjggfijoaaGreatDoor
open Go.RowKit Mist
attribute [local go_sem] aj aH aS aB ak
def QL (F:Nat)(l:List Tok)(n:Nat)(j:Job):Prop :=
 ∀ (g:Nat) (tv iv:Value) (w:World) (s:RS) (xs:List NV) (nv:Value) (qs:List Int) (s':RS),aK l n j s=some (qs,s')→s'.ns.length≤100000→QS g tv l iv w s xs nv →
  Calls Tryz.prog F #[.pointer (some ⟨g,0,none⟩)] w fun e w'=>∃ A c xs' eO,e=.returned (.slice A qs.length c)∧LR w w' xs' (.slice A qs.length c) qs∧QS g tv l iv w' s' xs' eO∧Mw g w xs nv w' xs' eO
theorem LR.base {w0 w1 w:World}{xs:List NV}{v:Value}{ks:List Int}(h:LR w1 w xs v ks)(hle:w0.heap.size≤w1.heap.size):LR w0 w xs v ks:=⟨h.row,fun b hb=>Nat.le_trans hle (h.lo b hb),h.far⟩
theorem q_exprs (l:List Tok)(hl:l.length≤1000)(n:Nat)(C:∀ m,m≤n→QC 155 l m .expr):QL 246 l (n+1) (.list .expr):=by
 intro g tv iv w s xs nv qs s' hr hn h;have H0:=hid h;have M0:=hid (Mw.refl (g:=g) (w:=w) (xs:=xs) (nv:=nv));have hle:=h.le;clear h;have hg0:=H0.out.lt;obtain⟨j0,hj0,hy0,hy1,hy2⟩:=info_parts gN;rw [aK] at hr
 obtain⟨a1,t1,r1,hr⟩:=aF hr;have hb1:=(bG _ _ _ _ _ hr).few;have HR:=hid hr;have Eu:=hid r1;clear hr r1;go_enter Tryz.func246,Tryz.ntmps246
 go_wp2_with fail;refine (C n (aaJ _) g tv iv _ _ _ _ _ _ Eu.out (by omega) H0.out).mono ?_;rintro e w1⟨rfl,xs1,gW,h,m⟩;have H1:=hid h;have M1:=hid (M0.out.trans m);clear h m H0 M0;have hsz:=M1.out.size;have HL:=hid (LR.made (w0:=w) H1.out rfl hsz (lu w1 [hd a1]));have H1A:=hid (H1.out.alloc (.cells #[.int .i64 (hd a1)] 3));have M1A:=hid (M1.out.dD (o:=.cells #[.int .i64 (hd a1)] 3));go_wp2_with fail;go_loopw [3] (fun v wr=>∃ (m:Nat) (acc:List Int) (A:Option Addr) (c:Nat) (s1:RS) (xs1:List NV) (gW:Value),v=.slice A acc.length c∧m≤n∧acc.length≤s1.k+1∧Hid (aK l m (.eu .expr acc) s1=some (qs,s'))∧Hid (LR w wr xs1 (.slice A acc.length c) acc)∧Hid (QS g tv l iv wr s1 xs1 gW)∧Hid (Mw g w xs nv wr xs1 gW)) (fun _ wr=>XA l g wr)
 case atStart=>exact⟨n,[hd a1],_,_,t1,xs1,gW,rfl,aaJ _,by simp,HR,HL,H1A,M1A⟩
 case round =>
  clear HR Eu H1 M1 H1A M1A HL hsz;obtain⟨wo,rfl⟩:∃ wo:World,wo=wr:=⟨_,rfl⟩;obtain⟨m,acc,A,c,s1,xs1,gW,rfl,hm,hac,HR,L,H0,M0⟩:=hrel;have HW:=H0;have hr:=HR.out;have hle1:=H0.out.le;clear HR;rcases m with _ | m
  ·exact absurd hr (by simp [aK])
  rw [aK] at hr
  by_cases c0:s1.next l=[44]
  ·rw [if_pos c0] at hr
   obtain⟨b,t2,r2,hr⟩:=aF hr;have hb2:=(bG _ _ _ _ _ hr).few;have hk2:s1.k+1≤t2.k:=(bG _ _ _ _ _ r2).k;have hk3:=(dF (l:=l) (s:=s1) (by rw [c0];simp)).2;have e0:(s1.next l == [44])=true:=by rw [c0];rfl
   have HR:=hid hr;have HR2:=hid r2;clear hr r2 c0;go_wp2_with fail;refine (aX g tv l iv _ _ _ _ H0.out hl).mono ?_;rintro e Et⟨rfl,hb⟩;have lF:=hid (H0.out.below hb);have M11:=hid (M0.out.aL hb)
   replace L:=hid (L.out.below hb)
   clear hb H0 M0;have hk12:=hk3;have c1:=lF.out.blk.cell 1;have f1:=lF.out.blk.frozen 1;have mh:=hid (lF.out.dR hk12);have qU:=hid (M11.out.kJ lF.out.vV)
   replace L:=hid (L.out.mv lF.out lF.out.vV)
   clear lF M11;go_wp2_with fail;clear c1 f1;go_wp2_with fail;refine (C m (by omega) g tv iv _ _ _ _ _ _ HR2.out (by omega) mh.out).mono ?_;rintro e w13⟨rfl,xs13,nv13,h,m⟩;have zx:=hid h;have Gd:=hid (qU.out.trans m)
   replace L:=hid (L.out.mw mh.out m)
   clear h m mh qU;have LA:=hid (L.out.alloc (.cells #[.int .i64 (hd b)] 3));have HA:=hid (zx.out.alloc (.cells #[.int .i64 (hd b)] 3));have MA:=hid (Gd.out.dD (o:=(.cells #[.int .i64 (hd b)] 3)));have hms:=MA.out.size;go_wp2_with (at_builtin;go_loud (refine wpList_append_lies _ rfl (.tmp 17) (.tmp 20) 24 rfl 0 3 j0 (.int .i64 0) 1 8 Tryz.underlying24 hj0 hy0 hy1 hy2 rfl (by decide) _ (acc).length (intCells (acc)) rfl LA.out.row ⟨w13.heap.size,0,none⟩ 1 1 [.int .i64 (hd b)] rfl rfl (cell_one_new _ _ _) (by simp [Value.oneCell']) (by omega) (by simp only [maxLen];omega) (by omega) (aaL _) _ rfl ?_);intro gg14 cap14 Tx hown hgrow hat hlt;have L2:=hid (LA.out.grow HA.out hown hat hms);have K4:=hid (HA.out.grow LA.out hgrow (fun b hb=>aaK (aaW hg0 (LA.out.lo b hb))));have Qp:=hid (MA.out.grow LA.out hgrow);clear hown hgrow hat hlt)
   clear LA HA MA hms L zx Gd;exact⟨⟨m,acc ++ [hd b],_,_,t2,_,_,by rw [aaO];rfl,by omega,by rw [aaO];simp;omega,HR,by rw [aaO];exact L2,K4,Qp⟩,by rw [iK K4.out,iK HW.out];omega⟩
  rw [if_neg c0] at hr
  have e0:(s1.next l == [44])=false:=by simpa using c0
  obtain⟨rfl,rfl⟩:=dY hr;clear hr c0;go_wp2_with fail;refine (aX g tv l iv _ _ _ _ H0.out hl).mono ?_;rintro e Et⟨rfl,hb⟩;have lF:=hid (H0.out.below hb);have M11:=hid (M0.out.aL hb)
  replace L:=hid (L.out.below hb)
  clear hb H0 M0;go_wp2_with fail;go_ret;exact⟨A,c,xs1,gW,rfl,L.out,lF.out,M11.out⟩
theorem aa3 (l:List Tok)(hl:l.length≤1000)(hT:∀ t ∈ l,t.text.length≤100000000)(n:Nat)(C:∀ m,m < n→QC 153 l m .typ):QL 152 l n (.list .param):=by
 intro g tv iv w s xs nv qs s' hr hn h;have H0:=hid h;have M0:=hid (Mw.refl (g:=g) (w:=w) (xs:=xs) (nv:=nv));have hle:=h.le;clear h;have hg0:=H0.out.lt;obtain⟨j0,hj0,hy0,hy1,hy2⟩:=info_parts gN;rcases n with _ | n
 ·exact absurd hr (by simp [aK])
 rw [aK] at hr
 obtain⟨a1,t1,r1,hr⟩:=aF hr;have HR:=hid hr;have Eu:=hid r1;clear hr r1;go_enter Tryz.func152,Tryz.ntmps152
 have HL:=hid (LR.empty (w0:=w) H0.out rfl (aaJ _));have H0A:=hid (H0.out.alloc (.cells #[] 3));have M0A:=hid (M0.out.dD (o:=.cells #[] 3));go_wp2_with fail;go_loopw [3,4] (fun v _ wr=>∃ (m r:Nat) (acc:List Int) (A:Option Addr) (c:Nat) (s1:RS) (xs1:List NV) (gW:Value) (b:List Int) (t:RS),v=.slice A acc.length c∧m≤n∧r≤n∧acc.length≤s1.k∧Hid (aK l m .param s1=some (b,t))∧Hid (aK l r (.eu .param (acc ++ [hd b])) t=some (qs,s'))∧Hid (LR w wr xs1 (.slice A acc.length c) acc)∧Hid (QS g tv l iv wr s1 xs1 gW)∧Hid (Mw g w xs nv wr xs1 gW)) (fun _ _ wr=>XA l g wr)
 case atStart=>exact⟨n,n,[],_,_,s,xs,nv,a1,t1,rfl,aaJ _,aaJ _,aaL _,Eu,HR,HL,H0A,M0A⟩
 case round =>
  clear HR Eu H0 M0 H0A M0A HL;obtain⟨wo,rfl⟩:∃ wo:World,wo=wr:=⟨_,rfl⟩;obtain⟨m,r,acc,A,c,s1,xs1,gW,b,t,rfl,hm,hrn,hac,HP,HR,L,H0,M0⟩:=hrel;have HW:=H0;have hp:=HP.out;have hle1:=H0.out.le;rcases m with _ | m
  ·exact absurd hp (by simp [aK])
  rw [aK] at hp
  obtain⟨d,t2,r2,hp⟩:=aF hp;obtain⟨rfl,rfl⟩:=bn hp;have hb2:=(bG _ _ _ _ _ HR.out).few;have hb3:t2.ns.length≤100000:=by simp only [RS.put,aaO,aaT] at hb2;omega
  have hk2:s1.k≤t2.k:=((((To.refl (s:=s1)).word (c:=1) (by simp)).take (x:=[58]) (by simp)).trans (bG _ _ _ _ _ r2)).k;have HR2:=hid r2;clear r2 hp HP;go_wp2_with fail;refine (bM g tv l iv _ _ _ _ H0.out hl).mono ?_;rintro e Et⟨rfl,hb⟩;have lF:=hid (H0.out.below hb);have M11:=hid (M0.out.aL hb)
  replace L:=hid (L.out.below hb)
  clear hb H0 M0;go_wp2_with fail;refine (iR g tv l iv _ _ _ _ 1 (by simp) (by simp) lF.out hl).mono ?_;rintro e wQ⟨rfl,h,m⟩;have mh:=hid h;have qU:=hid (M11.out.kJ m)
  replace L:=hid (L.out.mv lF.out m)
  clear h m lF M11;have NB:=hid (aC.new wQ 50 #[.int .u8 34,.string (aM (s1.word l 1).1),.int .i64 0,.slice none 0 0,.int .i64 (s1.place l)]);have gL:g < wQ.heap.size:=mh.out.lt;have bY:some wQ.heap.size ≠ gW.ownBlock:=fun e=>by have:=mh.out.jf _ e.symm;omega
  have oG:w.heap.size≤wQ.heap.size:=qU.out.size
  replace L:=hid (L.out.alloc (.cells #[.int .u8 34,.string (aM (s1.word l 1).1),.int .i64 0,.slice none 0 0,.int .i64 (s1.place l)] 50))
  have zx:=hid (mh.out.alloc (.cells #[.int .u8 34,.string (aM (s1.word l 1).1),.int .i64 0,.slice none 0 0,.int .i64 (s1.place l)] 50));have Gd:=hid (qU.out.dD (o:=.cells #[.int .u8 34,.string (aM (s1.word l 1).1),.int .i64 0,.slice none 0 0,.int .i64 (s1.place l)] 50));clear mh qU;go_wp2_with fail;refine (fu g tv l iv _ _ _ _ [58] (by simp) zx.out hl).mono ?_;rintro e Tx⟨rfl,h,m⟩;have K4:=hid h;have Qp:=hid (Gd.out.kJ m);have bH:=m.ne NB.out.lt bY
  replace NB:=hid (m.blk NB.out (Nat.ne_of_gt gL) bY)
  clear bY;have bY:=bH;clear bH
  replace L:=hid (L.out.mv zx.out m)
  clear h m zx Gd;go_wp2_with fail;refine (C m (by omega) g tv iv _ _ _ _ _ _ HR2.out hb3 K4.out).mono ?_;rintro e JM⟨rfl,xs15,aav,h,m⟩;have Xl:=hid h;have M15:=hid (Qp.out.trans m);have bH:=m.ne NB.out.lt bY
  replace NB:=hid (m.blk NB.out (Nat.ne_of_gt gL) bY)
  clear bY;have bY:=bH;clear bH
  replace L:=hid (L.out.mw K4.out m)
  clear h m K4 Qp;have n1:¬ JM.heap.size=wQ.heap.size:=Nat.ne_of_gt NB.out.lt;have n2:¬ wQ.heap.size=JM.heap.size:=Nat.ne_of_lt NB.out.lt;have hz:=NB.out.lt;have z3:=NB.out.frozen 3;have b0:=NB.out.cell 0;have b1:=NB.out.cell 1;have b2:=NB.out.cell 2;have b3:=NB.out.cell 3;have b4:=NB.out.cell 4;have H16:=hid (Xl.out.mD NB.out gL bY 3 (.slice (some ⟨JM.heap.size,0,none⟩) 1 1));have M16:=hid (M15.out.kL (i:=3) (u:=.slice (some ⟨JM.heap.size,0,none⟩) 1 1) oG)
  replace L:=hid (L.out.zo NB.out 3 (.slice (some ⟨JM.heap.size,0,none⟩) 1 1))
  replace NB:=hid (NB.out.upd 3 (.slice (some ⟨JM.heap.size,0,none⟩) 1 1) (cs':=#[.int .u8 34,.string (aM (s1.word l 1).1),.int .i64 0,.slice (some ⟨JM.heap.size,0,none⟩) 1 1,.int .i64 (s1.place l)]) rfl)
  clear Xl M15;have KA:=hid (H16.out.Hz [hd d] JM.heap.size (by simp));have Y3:∀ b,(Value.slice (some ⟨JM.heap.size,0,none⟩) ([hd d]:List Int).length ([hd d]:List Int).length).ownBlock=some b→w.heap.size≤b:=mM (by have h9:=M16.out.size;simpa using h9);have FLKA:=L.out.apart (k:=JM.heap.size) (n:=([hd d]:List Int).length) (c:=([hd d]:List Int).length) (by simp)
  replace NB:=hid (NB.out.alloc (.cells (intCells [hd d]).toArray 3))
  replace L:=hid (L.out.alloc (.cells (intCells [hd d]).toArray 3))
  have H17:=hid (H16.out.alloc (.cells (intCells [hd d]).toArray 3));have M17:=hid (M16.out.dD (o:=(.cells (intCells [hd d]).toArray 3)));clear H16 M16;go_wp2_with fail;refine (dZ g tv l iv _ _ _ _ 34 _ _ 0 _ [hd d] H17.out KA.out (by omega)).mono ?_;rintro e w18⟨rfl,nv18,h,m⟩;have H18:=hid h;have M18:=hid (M17.out.gX H18.out m Y3);have bH:=m.ne NB.out.lt bY
  replace NB:=hid (m.blk NB.out (Nat.ne_of_gt gL) bY)
  clear bY;have bY:=bH;clear bH
  replace KA:=hid (H17.out.l6 m KA.out)
  replace L:=hid (L.out.put H17.out H18.out m FLKA)
  clear h m H17 M17;clear b0 b1 b2 b3 b4 z3 n1 n2 hz;have LA:=hid (L.out.alloc (.cells #[.int .i64 ((t2.ns.length:Int))] 3));have HA:=hid (H18.out.alloc (.cells #[.int .i64 ((t2.ns.length:Int))] 3));have MA:=hid (M18.out.dD (o:=(.cells #[.int .i64 ((t2.ns.length:Int))] 3)))
  replace NB:=hid (NB.out.alloc (.cells #[.int .i64 ((t2.ns.length:Int))] 3))
  have hms:=MA.out.size;go_wp2_with (at_builtin;go_loud (refine wpList_append_lies _ rfl (.tmp 17) (.tmp 21) 24 rfl 0 3 j0 (.int .i64 0) 1 8 Tryz.underlying24 hj0 hy0 hy1 hy2 rfl (by decide) _ (acc).length (intCells (acc)) rfl LA.out.row ⟨w18.heap.size,0,none⟩ 1 1 [.int .i64 ((t2.ns.length:Int))] rfl rfl (cell_one_new _ _ _) (by simp [Value.oneCell']) (by omega) (by simp only [maxLen];omega) (by omega) (aaL _) _ rfl ?_);intro gg19 cap19 w19 hown hgrow hat hlt;have L2:=hid (LA.out.grow HA.out hown hat hms);have H19:=hid (HA.out.grow LA.out hgrow (fun b hb=>aaK (aaW hg0 (LA.out.lo b hb))));have M19:=hid (MA.out.grow LA.out hgrow);replace NB:=hid (LA.out.blk NB.out hgrow);clear KA;clear hown hgrow hat hlt)
  clear LA HA MA hms L H18 M18;rcases r with _ | r
  ·exact absurd HR.out (by simp [aK])
  have hr:=HR.out;rw [aK] at hr
  clear HR;obtain⟨t3,ht3⟩:∃ t3,t3=(t2.put ⟨34,(s1.word l 1).1,0,[hd d],s1.place l⟩).2:=⟨_,rfl⟩;have HK3:=hid (show t3.k=t2.k by rw [ht3];rfl);rw [← ht3] at hr H19
  clear ht3;by_cases c0:t3.next l=[44]
  ·rw [if_pos c0] at hr
   obtain⟨b4,t4,r4,hr⟩:=aF hr;have hk4:=(dF (l:=l) (s:=t3) (by rw [c0];simp)).2;have e0:(t3.next l == [44])=true:=by rw [c0];rfl
   have HR:=hid hr;have HR4:=hid r4;clear hr r4 c0;go_wp2_with fail;refine (aX g tv l iv _ _ _ _ H19.out hl).mono ?_;rintro e w20⟨rfl,hb⟩;have H20:=hid (H19.out.below hb);have M20:=hid (M19.out.aL hb)
   replace NB:=hid (NB.out.below hb NB.out.lt)
   replace L2:=hid (L2.out.below hb)
   clear hb H19 M19;have hk21:=hk4;have c1:=H20.out.blk.cell 1;have f1:=H20.out.blk.frozen 1;have H21:=hid (H20.out.dR hk21);have M21:=hid (M20.out.kJ H20.out.vV)
   replace NB:=hid (H20.out.BG NB.out gL)
   replace L2:=hid (L2.out.mv H20.out H20.out.vV)
   clear H20 M20;go_wp2_with fail;clear c1 f1;exact⟨⟨r,r,acc ++ [(t2.ns.length:Int)],_,_,t3.dR,_,_,b4,t4,by rw [aaO];rfl,by omega,by omega,by rw [aaO];show acc.length+1≤t3.k+1;have:=HK3.out;omega,HR4,HR,by rw [aaO];exact L2,H21,M21⟩,by rw [iK H21.out,iK HW.out];show l.length - (t3.k+1) < _;have:=HK3.out;omega⟩
  rw [if_neg c0] at hr
  have e0:(t3.next l == [44])=false:=by simpa using c0
  obtain⟨rfl,rfl⟩:=dY hr;clear hr c0;go_wp2_with fail;refine (aX g tv l iv _ _ _ _ H19.out hl).mono ?_;rintro e w20⟨rfl,hb⟩;have H20:=hid (H19.out.below hb);have M20:=hid (M19.out.aL hb)
  replace NB:=hid (NB.out.below hb NB.out.lt)
  replace L2:=hid (L2.out.below hb)
  clear hb H19 M19;go_wp2_with fail;go_ret;exact⟨_,_,_,_,by rw [aaO];rfl,by rw [aaO];exact L2.out,H20.out,M20.out⟩
def yM (l:List Tok)(n:Nat)(s:RS):Option (List Int × RS) :=
 if (s.word l 1).2.next l=[40] then
  if (s.word l 1).2.dR.next l=[41] then some (((s.word l 1).2.dR.take l [41]).put ⟨21,(s.word l 1).1,0,[],s.place l⟩)
  else gY (aK l n (.list .expr) (s.word l 1).2.dR) fun qs s1=>some ((s1.take l [41]).put ⟨21,(s.word l 1).1,0,qs,s.place l⟩)
 else if (s.word l 1).2.next l=[123] then
  gY (aK l n (.list .put) (s.word l 1).2.dR) fun qs s1=>some ((s1.take l [125]).put ⟨24,(s.word l 1).1,0,qs,s.place l⟩)
 else some ((s.word l 1).2.put ⟨3,(s.word l 1).1,0,[],s.place l⟩)
def wC (l:List Tok)(s:RS):Bool:=s.next l == [44]
def GN (l:List Tok)(s:RS):RS:=if s.next l=[44] then s.dR else s
theorem SF (g:Nat)(tv:Value)(l:List Tok)(iv:Value)(w:World)(s:RS)(xs:List NV)(nv:Value)(h:QS g tv l iv w s xs nv)(hl:l.length≤1000) :
  Calls Tryz.prog 252 #[.pointer (some ⟨g,0,none⟩)] w fun e w'=>e=.returned (.bool (wC l s))∧QS g tv l iv w' (GN l s) xs nv∧Mv g nv.ownBlock w nv.ownBlock w':=by
 have H0:=hid h;have M0:=hid (Mw.refl (g:=g) (w:=w) (xs:=xs) (nv:=nv));have hle:=h.le;clear h;by_cases c0:s.next l=[44]
 ·have hk3:=(dF (l:=l) (s:=s) (by rw [c0];simp)).2;have HS:=hid (show GN l s=s.dR from if_pos c0);have e0:(s.next l == [44])=true:=by rw [c0];rfl
  have HI:=hid (show wC l s=true from e0);clear c0;go_in
  go_wp2_with fail;refine (aX g tv l iv _ _ _ _ H0.out hl).mono ?_;rintro e w1⟨rfl,hb⟩;have H1:=hid (H0.out.below hb);have M1:=hid (M0.out.aL hb);clear hb H0 M0;have hk2:=hk3;have c1:=H1.out.blk.cell 1;have f1:=H1.out.blk.frozen 1;have H2:=hid (H1.out.dR hk2);have M2:=hid (M1.out.kJ H1.out.vV);clear H1 M1;go_wp2_with fail;clear c1 f1;go_ret;exact⟨by rw [HI.out];rfl,by rw [HS.out];exact H2.out,M2.out.mv⟩
 ·have HS:=hid (show GN l s=s from if_neg c0);have e0:(s.next l == [44])=false:=by simpa using c0
  have HI:=hid (show wC l s=false from e0);clear c0;go_in
  go_wp2_with fail;refine (aX g tv l iv _ _ _ _ H0.out hl).mono ?_;rintro e w1⟨rfl,hb⟩;have H1:=hid (H0.out.below hb);have M1:=hid (M0.out.aL hb);clear hb H0 M0;go_wp2_with fail;go_ret;exact⟨by rw [HI.out];rfl,by rw [HS.out];exact H1.out,M1.out.mv⟩
theorem q_name (l:List Tok)(hl:l.length≤1000)(n:Nat)(g:Nat)(tv iv:Value)(w:World)(s:RS)(xs:List NV)(nv:Value)(qs:List Int)(s':RS)(c0:¬ (s.word l 1).2.next l=[40])(c1:¬ (s.word l 1).2.next l=[123])(hr:yM l n s=some (qs,s'))(hn:s'.ns.length≤100000)(h:QS g tv l iv w s xs nv) :
  Calls Tryz.prog 247 #[.pointer (some ⟨g,0,none⟩)] w fun e w'=>e=.returned (.int .i64 (hd qs))∧∃ xs' eO,QS g tv l iv w' s' xs' eO∧Mw g w xs nv w' xs' eO:=by
 have H0:=hid h;have M0:=hid (Mw.refl (g:=g) (w:=w) (xs:=xs) (nv:=nv));have hle:=h.le;clear h;unfold yM at hr
 rw [if_neg c0,if_neg c1] at hr
 obtain⟨rfl,rfl⟩:=bn hr;have hb3:(s.word l 1).2.ns.length≤100000:=by simp only [RS.put,aaO,aaT] at hn;omega
 have e0:((s.word l 1).2.next l == [40])=false:=by simpa using c0
 have e1:((s.word l 1).2.next l == [123])=false:=by simpa using c1
 clear hr c0 c1;go_in
 go_wp2_with fail;refine (bM g tv l iv _ _ _ _ H0.out hl).mono ?_;rintro e w1⟨rfl,hb⟩;have H1:=hid (H0.out.below hb);have M1:=hid (M0.out.aL hb);clear hb H0 M0;go_wp2_with fail;refine (iR g tv l iv _ _ _ _ 1 (by simp) (by simp) H1.out hl).mono ?_;rintro e w2⟨rfl,h,m⟩;have H2:=hid h;have M2:=hid (M1.out.kJ m);clear h m H1 M1;have NB:=hid (aC.new w2 50 #[.int .u8 3,.string (aM (s.word l 1).1),.int .i64 0,.slice none 0 0,.int .i64 (s.place l)]);have gL:g < w2.heap.size:=H2.out.lt;have bY:some w2.heap.size ≠ nv.ownBlock:=fun e=>by have:=H2.out.jf _ e.symm;omega
 have oG:w.heap.size≤w2.heap.size:=M2.out.size;have H3:=hid (H2.out.alloc (.cells #[.int .u8 3,.string (aM (s.word l 1).1),.int .i64 0,.slice none 0 0,.int .i64 (s.place l)] 50));have M3:=hid (M2.out.dD (o:=.cells #[.int .u8 3,.string (aM (s.word l 1).1),.int .i64 0,.slice none 0 0,.int .i64 (s.place l)] 50));clear H2 M2;go_wp2_with fail;refine (aX g tv l iv _ _ _ _ H3.out hl).mono ?_;rintro e w4⟨rfl,hb⟩;have H4:=hid (H3.out.below hb);have M4:=hid (M3.out.aL hb)
 replace NB:=hid (NB.out.below hb NB.out.lt)
 clear hb H3 M3;have b0:=NB.out.cell 0;have b1:=NB.out.cell 1;have b2:=NB.out.cell 2;have b3:=NB.out.cell 3;have b4:=NB.out.cell 4;go_wp2_with fail;refine (dZ g tv l iv _ _ _ _ 3 _ _ 0 _ [] H4.out (cB.none_ _) (by omega)).mono ?_;rintro e w5⟨rfl,Fu,h,m⟩;have H5:=hid h;have M5:=hid (M4.out.gX H5.out m lW);have bH:=m.ne NB.out.lt bY
 replace NB:=hid (m.blk NB.out (Nat.ne_of_gt gL) bY)
 clear bY;have bY:=bH;clear bH;clear h m H4 M4;clear b0 b1 b2 b3 b4;go_wp2_with fail;go_ret;exact⟨rfl,_,_,H5.out,M5.out⟩
theorem q_call (l:List Tok)(hl:l.length≤1000)(n:Nat)(C:QL 246 l n (.list .expr))(g:Nat)(tv iv:Value)(w:World)(s:RS)(xs:List NV)(nv:Value)(qs:List Int)(s':RS)(c0:(s.word l 1).2.next l=[40])(hr:yM l n s=some (qs,s'))(hn:s'.ns.length≤100000)(h:QS g tv l iv w s xs nv) :
  Calls Tryz.prog 247 #[.pointer (some ⟨g,0,none⟩)] w fun e w'=>e=.returned (.int .i64 (hd qs))∧∃ xs' eO,QS g tv l iv w' s' xs' eO∧Mw g w xs nv w' xs' eO:=by
 have H0:=hid h;have M0:=hid (Mw.refl (g:=g) (w:=w) (xs:=xs) (nv:=nv));have hle:=h.le;clear h;unfold yM at hr
 rw [if_pos c0] at hr
 have hk3:=(dF (l:=l) (s:=(s.word l 1).2) (by rw [c0];simp)).2;have e0:((s.word l 1).2.next l == [40])=true:=by rw [c0];rfl
 by_cases c1:(s.word l 1).2.dR.next l=[41]
 ·rw [if_pos c1] at hr
  obtain⟨rfl,rfl⟩:=bn hr;have hb3:((s.word l 1).2.dR.take l [41]).ns.length≤100000:=by simp only [RS.put,aaO,aaT] at hn;omega
  have e1:((s.word l 1).2.dR.next l == [41])=true:=by rw [c1];rfl
  clear hr c0 c1;go_in
  go_wp2_with fail;refine (bM g tv l iv _ _ _ _ H0.out hl).mono ?_;rintro e w1⟨rfl,hb⟩;have H1:=hid (H0.out.below hb);have M1:=hid (M0.out.aL hb);clear hb H0 M0;go_wp2_with fail;refine (iR g tv l iv _ _ _ _ 1 (by simp) (by simp) H1.out hl).mono ?_;rintro e w2⟨rfl,h,m⟩;have H2:=hid h;have M2:=hid (M1.out.kJ m);clear h m H1 M1;have NB:=hid (aC.new w2 50 #[.int .u8 3,.string (aM (s.word l 1).1),.int .i64 0,.slice none 0 0,.int .i64 (s.place l)]);have gL:g < w2.heap.size:=H2.out.lt;have bY:some w2.heap.size ≠ nv.ownBlock:=fun e=>by have:=H2.out.jf _ e.symm;omega
  have oG:w.heap.size≤w2.heap.size:=M2.out.size;have H3:=hid (H2.out.alloc (.cells #[.int .u8 3,.string (aM (s.word l 1).1),.int .i64 0,.slice none 0 0,.int .i64 (s.place l)] 50));have M3:=hid (M2.out.dD (o:=.cells #[.int .u8 3,.string (aM (s.word l 1).1),.int .i64 0,.slice none 0 0,.int .i64 (s.place l)] 50));clear H2 M2;go_wp2_with fail;refine (aX g tv l iv _ _ _ _ H3.out hl).mono ?_;rintro e w4⟨rfl,hb⟩;have H4:=hid (H3.out.below hb);have M4:=hid (M3.out.aL hb)
  replace NB:=hid (NB.out.below hb NB.out.lt)
  clear hb H3 M3;have n1:¬ w2.heap.size=g:=Nat.ne_of_gt gL;have n2:¬ g=w2.heap.size:=Nat.ne_of_lt gL;have z0:=NB.out.frozen 0;have b0:=NB.out.cell 0;have hk5:=hk3;have c1:=H4.out.blk.cell 1;have f1:=H4.out.blk.frozen 1;have H5:=hid (H4.out.dR hk5);have M5:=hid (M4.out.kJ H4.out.vV)
  replace NB:=hid (H4.out.BG NB.out gL)
  clear H4 M4;have H6:=hid (H5.out.mD NB.out gL bY 0 (.int .u8 21));have M6:=hid (M5.out.kL (i:=0) (u:=.int .u8 21) oG)
  replace NB:=hid (NB.out.upd 0 (.int .u8 21) (cs':=#[.int .u8 21,.string (aM (s.word l 1).1),.int .i64 0,.slice none 0 0,.int .i64 (s.place l)]) rfl)
  clear H5 M5;go_wp2_with fail;refine (aX g tv l iv _ _ _ _ H6.out hl).mono ?_;rintro e w7⟨rfl,hb⟩;have H7:=hid (H6.out.below hb);have M7:=hid (M6.out.aL hb)
  replace NB:=hid (NB.out.below hb NB.out.lt)
  clear hb H6 M6;clear b0 z0;clear c1 f1 n1 n2;go_wp2_with fail;refine (fu g tv l iv _ _ _ _ [41] (by simp) H7.out hl).mono ?_;rintro e w8⟨rfl,h,m⟩;have H8:=hid h;have M8:=hid (M7.out.kJ m);have bH:=m.ne NB.out.lt bY
  replace NB:=hid (m.blk NB.out (Nat.ne_of_gt gL) bY)
  clear bY;have bY:=bH;clear bH;clear h m H7 M7;have b0:=NB.out.cell 0;have b1:=NB.out.cell 1;have b2:=NB.out.cell 2;have b3:=NB.out.cell 3;have b4:=NB.out.cell 4;go_wp2_with fail;refine (dZ g tv l iv _ _ _ _ 21 _ _ 0 _ [] H8.out (cB.none_ _) (by omega)).mono ?_;rintro e w9⟨rfl,nv9,h,m⟩;have H9:=hid h;have M9:=hid (M8.out.gX H9.out m lW);have bH:=m.ne NB.out.lt bY
  replace NB:=hid (m.blk NB.out (Nat.ne_of_gt gL) bY)
  clear bY;have bY:=bH;clear bH;clear h m H8 M8;clear b0 b1 b2 b3 b4;go_wp2_with fail;go_ret;exact⟨rfl,_,_,H9.out,M9.out⟩
 ·rw [if_neg c1] at hr
  obtain⟨b,t2,r2,hr⟩:=aF hr;obtain⟨rfl,rfl⟩:=bn hr;have hb3:(t2.take l [41]).ns.length≤100000:=by simp only [RS.put,aaO,aaT] at hn;omega
  have hb2:=((To.refl (s:=t2)).take (l:=l) (x:=[41]) (by simp)).few;have e1:((s.word l 1).2.dR.next l == [41])=false:=by simpa using c1
  have HR2:=hid r2;clear hr r2 c0 c1;go_in
  go_wp2_with fail;refine (bM g tv l iv _ _ _ _ H0.out hl).mono ?_;rintro e w1⟨rfl,hb⟩;have H1:=hid (H0.out.below hb);have M1:=hid (M0.out.aL hb);clear hb H0 M0;go_wp2_with fail;refine (iR g tv l iv _ _ _ _ 1 (by simp) (by simp) H1.out hl).mono ?_;rintro e w2⟨rfl,h,m⟩;have H2:=hid h;have M2:=hid (M1.out.kJ m);clear h m H1 M1;have NB:=hid (aC.new w2 50 #[.int .u8 3,.string (aM (s.word l 1).1),.int .i64 0,.slice none 0 0,.int .i64 (s.place l)]);have gL:g < w2.heap.size:=H2.out.lt;have bY:some w2.heap.size ≠ nv.ownBlock:=fun e=>by have:=H2.out.jf _ e.symm;omega
  have oG:w.heap.size≤w2.heap.size:=M2.out.size;have H3:=hid (H2.out.alloc (.cells #[.int .u8 3,.string (aM (s.word l 1).1),.int .i64 0,.slice none 0 0,.int .i64 (s.place l)] 50));have M3:=hid (M2.out.dD (o:=.cells #[.int .u8 3,.string (aM (s.word l 1).1),.int .i64 0,.slice none 0 0,.int .i64 (s.place l)] 50));clear H2 M2;go_wp2_with fail;refine (aX g tv l iv _ _ _ _ H3.out hl).mono ?_;rintro e w4⟨rfl,hb⟩;have H4:=hid (H3.out.below hb);have M4:=hid (M3.out.aL hb)
  replace NB:=hid (NB.out.below hb NB.out.lt)
  clear hb H3 M3;have n1:¬ w2.heap.size=g:=Nat.ne_of_gt gL;have n2:¬ g=w2.heap.size:=Nat.ne_of_lt gL;have z0:=NB.out.frozen 0;have b0:=NB.out.cell 0;have hk5:=hk3;have c1:=H4.out.blk.cell 1;have f1:=H4.out.blk.frozen 1;have H5:=hid (H4.out.dR hk5);have M5:=hid (M4.out.kJ H4.out.vV)
  replace NB:=hid (H4.out.BG NB.out gL)
  clear H4 M4;have H6:=hid (H5.out.mD NB.out gL bY 0 (.int .u8 21));have M6:=hid (M5.out.kL (i:=0) (u:=.int .u8 21) oG)
  replace NB:=hid (NB.out.upd 0 (.int .u8 21) (cs':=#[.int .u8 21,.string (aM (s.word l 1).1),.int .i64 0,.slice none 0 0,.int .i64 (s.place l)]) rfl)
  clear H5 M5;go_wp2_with fail;refine (aX g tv l iv _ _ _ _ H6.out hl).mono ?_;rintro e w7⟨rfl,hb⟩;have H7:=hid (H6.out.below hb);have M7:=hid (M6.out.aL hb)
  replace NB:=hid (NB.out.below hb NB.out.lt)
  clear hb H6 M6;clear b0 z0;clear c1 f1 n1 n2;go_wp2_with fail;refine (C g tv iv _ _ _ _ _ _ HR2.out (by omega) H7.out).mono ?_;rintro e w8⟨AL,cL,xs8,V_,rfl,hL,h,m⟩;have L:=hid (hL.base M7.out.size);clear hL;have H8:=hid h;have M8:=hid (M7.out.trans m);have bH:=m.ne NB.out.lt bY
  replace NB:=hid (m.blk NB.out (Nat.ne_of_gt gL) bY)
  clear bY;have bY:=bH;clear bH;clear h m H7 M7;have z3:=NB.out.frozen 3;have b3:=NB.out.cell 3;have H9:=hid (H8.out.mD NB.out gL bY 3 (.slice AL b.length cL));have M9:=hid (M8.out.kL (i:=3) (u:=.slice AL b.length cL) oG)
  replace L:=hid (L.out.zo NB.out 3 (.slice AL b.length cL))
  replace NB:=hid (NB.out.upd 3 (.slice AL b.length cL) (cs':=#[.int .u8 21,.string (aM (s.word l 1).1),.int .i64 0,.slice AL b.length cL,.int .i64 (s.place l)]) rfl)
  clear H8 M8;go_wp2_with fail;refine (fu g tv l iv _ _ _ _ [41] (by simp) H9.out hl).mono ?_;rintro e Qv⟨rfl,h,m⟩;have Dt:=hid h;have Fz:=hid (M9.out.kJ m);have bH:=m.ne NB.out.lt bY
  replace NB:=hid (m.blk NB.out (Nat.ne_of_gt gL) bY)
  clear bY;have bY:=bH;clear bH
  replace L:=hid (L.out.mv H9.out m)
  clear h m H9 M9;clear b3 z3;have b0:=NB.out.cell 0;have b1:=NB.out.cell 1;have b2:=NB.out.cell 2;have b3:=NB.out.cell 3;have b4:=NB.out.cell 4;have LK:=hid L.out.row;have Vf:=L.out.lo;clear L;go_wp2_with fail;refine (dZ g tv l iv _ _ _ _ 21 _ _ 0 _ b Dt.out LK.out (by omega)).mono ?_;rintro e Et⟨rfl,nv11,h,m⟩;have lF:=hid h;have M11:=hid (Fz.out.gX lF.out m Vf);have bH:=m.ne NB.out.lt bY
  replace NB:=hid (m.blk NB.out (Nat.ne_of_gt gL) bY)
  clear bY;have bY:=bH;clear bH;clear h m Dt Fz;clear b0 b1 b2 b3 b4;go_wp2_with fail;go_ret;exact⟨rfl,_,_,lF.out,M11.out⟩
def aat (v:Value):Nat:=match v with
 | .bool true=>1
 | _=>0
theorem aa5 (l:List Tok)(hl:l.length≤1000)(n:Nat)(C:∀ m,m < n→QC 155 l m .expr)(g:Nat)(tv iv:Value)(w:World)(s:RS)(xs:List NV)(nv:Value)(qs:List Int)(s':RS)(c0:¬ (s.word l 1).2.next l=[40])(c1:(s.word l 1).2.next l=[123])(hr:yM l n s=some (qs,s'))(hn:s'.ns.length≤100000)(h:QS g tv l iv w s xs nv) :
  Calls Tryz.prog 247 #[.pointer (some ⟨g,0,none⟩)] w fun e w'=>e=.returned (.int .i64 (hd qs))∧∃ xs' eO,QS g tv l iv w' s' xs' eO∧Mw g w xs nv w' xs' eO:=by
 have H0:=hid h;have M0:=hid (Mw.refl (g:=g) (w:=w) (xs:=xs) (nv:=nv));have hle:=h.le;have hg0:=h.lt;clear h;unfold yM at hr
 obtain⟨j0,hj0,hy0,hy1,hy2⟩:=info_parts gN;rw [if_neg c0,if_pos c1] at hr
 obtain⟨ql,t0,r0,hr⟩:=aF hr;obtain⟨rfl,rfl⟩:=bn hr;have hb0:(t0.take l [125]).ns.length≤100000:=by simp only [RS.put,aaO,aaT] at hn;omega
 have hbt:=((To.refl (s:=t0)).take (l:=l) (x:=[125]) (by simp)).few;rcases n with _ | n
 ·exact absurd r0 (by simp [aK])
 rw [aK] at r0
 obtain⟨a1,t1,r1,r0⟩:=aF r0;have HR:=hid r0;have Eu:=hid r1;have hk3:=(dF (l:=l) (s:=(s.word l 1).2) (by rw [c1];simp)).2;have e0:((s.word l 1).2.next l == [40])=false:=by simpa using c0
 have e1:((s.word l 1).2.next l == [123])=true:=by rw [c1];rfl
 clear hr r0 r1 c0 c1;go_in
 go_wp2_with fail;refine (bM g tv l iv _ _ _ _ H0.out hl).mono ?_;rintro e w1⟨rfl,hb⟩;have H1:=hid (H0.out.below hb);have M1:=hid (M0.out.aL hb);clear hb H0 M0;go_wp2_with fail;refine (iR g tv l iv _ _ _ _ 1 (by simp) (by simp) H1.out hl).mono ?_;rintro e w2⟨rfl,h,m⟩;have H2:=hid h;have M2:=hid (M1.out.kJ m);clear h m H1 M1;have NB:=hid (aC.new w2 50 #[.int .u8 3,.string (aM (s.word l 1).1),.int .i64 0,.slice none 0 0,.int .i64 (s.place l)]);have gL:g < w2.heap.size:=H2.out.lt;have bY:some w2.heap.size ≠ nv.ownBlock:=fun e=>by have:=H2.out.jf _ e.symm;omega
 have oG:w.heap.size≤w2.heap.size:=M2.out.size;have H3:=hid (H2.out.alloc (.cells #[.int .u8 3,.string (aM (s.word l 1).1),.int .i64 0,.slice none 0 0,.int .i64 (s.place l)] 50));have M3:=hid (M2.out.dD (o:=.cells #[.int .u8 3,.string (aM (s.word l 1).1),.int .i64 0,.slice none 0 0,.int .i64 (s.place l)] 50));clear H2 M2;go_wp2_with fail;refine (aX g tv l iv _ _ _ _ H3.out hl).mono ?_;rintro e w4⟨rfl,hb⟩;have H4:=hid (H3.out.below hb);have M4:=hid (M3.out.aL hb)
 replace NB:=hid (NB.out.below hb NB.out.lt)
 clear hb H3 M3;have n1:¬ w2.heap.size=g:=Nat.ne_of_gt gL;have n2:¬ g=w2.heap.size:=Nat.ne_of_lt gL;have z0:=NB.out.frozen 0;have b0:=NB.out.cell 0;have hge:=M4.out.size;have hk5:=hk3;have c1:=H4.out.blk.cell 1;have f1:=H4.out.blk.frozen 1;have H5:=hid (H4.out.dR hk5);have M5:=hid (M4.out.kJ H4.out.vV)
 replace NB:=hid (H4.out.BG NB.out gL)
 clear H4 M4;have H6:=hid (H5.out.mD NB.out gL bY 0 (.int .u8 24));have M6:=hid (M5.out.kL (i:=0) (u:=.int .u8 24) oG)
 replace NB:=hid (NB.out.upd 0 (.int .u8 24) (cs':=#[.int .u8 24,.string (aM (s.word l 1).1),.int .i64 0,.slice none 0 0,.int .i64 (s.place l)]) rfl)
 clear H5 M5;have HL:=hid (LR.nil w ((w4.setCell ⟨g,1,none⟩ (.int .i64 (((s.word l 1).2.k:Int)+1))).setCell ⟨w2.heap.size,0,none⟩ (.int .u8 24)) xs);go_wp2_with fail;clear b0 z0;clear c1 f1;obtain⟨nb,hnb⟩:∃ nb,nb=w2.heap.size:=⟨_,rfl⟩;rw [← hnb] at NB gL bY oG n1 n2 H6 M6 HL ⊢
 clear hnb;go_loopw [4,5] (fun mv _ wr=>∃ (more:Bool) (acc:List Int) (A:Option Addr) (c:Nat) (s1:RS) (xs1:List NV) (gW:Value),mv=.bool more∧(more=true→acc.length≤s1.k)∧some nb ≠ gW.ownBlock∧Hid (if more=true then ∃ (m r:Nat) (b:List Int) (t:RS),m≤n∧r≤n∧aK l m .put s1=some (b,t)∧aK l r (.eu .put (acc ++ [hd b])) t=some (ql,t0) else acc=ql∧s1=t0)∧Hid (aC wr nb 50 #[.int .u8 24,.string (aM (s.word l 1).1),.int .i64 0,.slice A acc.length c,.int .i64 (s.place l)])∧Hid (LR w wr xs1 (.slice A acc.length c) acc)∧Hid (QS g tv l iv wr s1 xs1 gW)∧Hid (Mw g w xs nv wr xs1 gW)) (fun mv _ wr=>2 * XA l g wr+aat mv)
 case atStart=>exact⟨true,[],_,_,(s.word l 1).2.dR,xs,nv,rfl,fun _=>aaL _,bY,hid (by rw [if_pos rfl];exact⟨n,n,a1,t1,aaJ _,aaJ _,Eu.out,HR.out⟩),NB,HL,H6,M6⟩
 case round =>
  clear HR Eu H6 M6 HL NB bY;obtain⟨wo,rfl⟩:∃ wo:World,wo=wr:=⟨_,rfl⟩;obtain⟨more,acc,A,c,s1,xs1,gW,rfl,hac,bY,HC,NB,L,H0,M0⟩:=hrel;have HW:=H0;have hle1:=H0.out.le;have hc:=HC.out;clear HC;cases more
  ·rw [if_neg (by simp)] at hc
   obtain⟨rfl,rfl⟩:=hc;go_wp2_with fail;refine (fu g tv l iv _ _ _ _ [125] (by simp) H0.out hl).mono ?_;rintro e Et⟨rfl,h,m⟩;have lF:=hid h;have M11:=hid (M0.out.kJ m);have bH:=m.ne NB.out.lt bY
   replace NB:=hid (m.blk NB.out (Nat.ne_of_gt gL) bY)
   clear bY;have bY:=bH;clear bH
   replace L:=hid (L.out.mv H0.out m)
   clear h m H0 M0;have b0:=NB.out.cell 0;have b1:=NB.out.cell 1;have b2:=NB.out.cell 2;have b3:=NB.out.cell 3;have b4:=NB.out.cell 4;have LK:=hid L.out.row;have Vf:=L.out.lo;clear L;go_wp2_with fail;refine (dZ g tv l iv _ _ _ _ 24 _ _ 0 _ acc lF.out LK.out (by omega)).mono ?_;rintro e wQ⟨rfl,uL,h,m⟩;have mh:=hid h;have qU:=hid (M11.out.gX mh.out m Vf);have bH:=m.ne NB.out.lt bY
   replace NB:=hid (m.blk NB.out (Nat.ne_of_gt gL) bY)
   clear bY;have bY:=bH;clear bH;clear h m lF M11;clear b0 b1 b2 b3 b4;go_wp2_with fail;go_ret;exact⟨rfl,_,_,mh.out,qU.out⟩
  ·have hac:=hac rfl;rw [if_pos rfl] at hc
   obtain⟨m,r,b,t,hm,hrn,hp,HR⟩:=hc;have HR:=hid HR;rcases m with _ | m
   ·exact absurd hp (by simp [aK])
   rw [aK] at hp
   obtain⟨d,t2,r2,hp⟩:=aF hp;obtain⟨rfl,rfl⟩:=bn hp;have hb2:=(bG _ _ _ _ _ HR.out).few;have hb3:t2.ns.length≤100000:=by simp only [RS.put,aaO,aaT] at hb2;omega
   have hk2:s1.k≤t2.k:=((((To.refl (s:=s1)).word (c:=1) (by simp)).take (x:=[58]) (by simp)).trans (bG _ _ _ _ _ r2)).k;have HR2:=hid r2;clear r2 hp;go_wp2_with fail;refine (bM g tv l iv _ _ _ _ H0.out hl).mono ?_;rintro e w31⟨rfl,hb⟩;have H31:=hid (H0.out.below hb);have M31:=hid (M0.out.aL hb)
   replace NB:=hid (NB.out.below hb NB.out.lt)
   replace L:=hid (L.out.below hb)
   clear hb H0 M0;go_wp2_with fail;refine (iR g tv l iv _ _ _ _ 1 (by simp) (by simp) H31.out hl).mono ?_;rintro e w32⟨rfl,h,m⟩;have H32:=hid h;have M32:=hid (M31.out.kJ m);have bH:=m.ne NB.out.lt bY
   replace NB:=hid (m.blk NB.out (Nat.ne_of_gt gL) bY)
   clear bY;have bY:=bH;clear bH
   replace L:=hid (L.out.mv H31.out m)
   clear h m H31 M31;have MB:=hid (aC.new w32 50 #[.int .u8 25,.string (aM (s1.word l 1).1),.int .i64 0,.slice none 0 0,.int .i64 (s1.place l)]);have GMB:g < w32.heap.size:=H32.out.lt;have RMB:some w32.heap.size ≠ gW.ownBlock:=fun e=>by have:=H32.out.jf _ e.symm;omega
   have SMB:w.heap.size≤w32.heap.size:=M32.out.size;have XE:nb ≠ w32.heap.size:=Nat.ne_of_lt NB.out.lt;have DMBNB:=Ne.symm XE
   replace NB:=hid (NB.out.alloc (.cells #[.int .u8 25,.string (aM (s1.word l 1).1),.int .i64 0,.slice none 0 0,.int .i64 (s1.place l)] 50))
   replace L:=hid (L.out.alloc (.cells #[.int .u8 25,.string (aM (s1.word l 1).1),.int .i64 0,.slice none 0 0,.int .i64 (s1.place l)] 50))
   have H33:=hid (H32.out.alloc (.cells #[.int .u8 25,.string (aM (s1.word l 1).1),.int .i64 0,.slice none 0 0,.int .i64 (s1.place l)] 50));have M33:=hid (M32.out.dD (o:=.cells #[.int .u8 25,.string (aM (s1.word l 1).1),.int .i64 0,.slice none 0 0,.int .i64 (s1.place l)] 50));clear H32 M32;go_wp2_with fail;refine (fu g tv l iv _ _ _ _ [58] (by simp) H33.out hl).mono ?_;rintro e w34⟨rfl,h,m⟩;have H34:=hid h;have M34:=hid (M33.out.kJ m);have bH:=m.ne NB.out.lt bY
   replace NB:=hid (m.blk NB.out (Nat.ne_of_gt gL) bY)
   clear bY;have bY:=bH;clear bH;have Y2:=m.ne MB.out.lt RMB
   replace MB:=hid (m.blk MB.out (Nat.ne_of_gt GMB) RMB)
   clear RMB;have RMB:=Y2;clear Y2
   replace L:=hid (L.out.mv H33.out m)
   clear h m H33 M33;go_wp2_with fail;refine (C m (by omega) g tv iv _ _ _ _ _ _ HR2.out hb3 H34.out).mono ?_;rintro e UR⟨rfl,xs35,nv35,h,m⟩;have H35:=hid h;have M35:=hid (M34.out.trans m);have bH:=m.ne NB.out.lt bY
   replace NB:=hid (m.blk NB.out (Nat.ne_of_gt gL) bY)
   clear bY;have bY:=bH;clear bH;have Y2:=m.ne MB.out.lt RMB
   replace MB:=hid (m.blk MB.out (Nat.ne_of_gt GMB) RMB)
   clear RMB;have RMB:=Y2;clear Y2
   replace L:=hid (L.out.mw H34.out m)
   clear h m H34 M34;have p1:¬ UR.heap.size=w32.heap.size:=Nat.ne_of_gt MB.out.lt;have p2:¬ w32.heap.size=UR.heap.size:=Nat.ne_of_lt MB.out.lt;have p3:¬ nb=w32.heap.size:=XE;have p4:¬ w32.heap.size=nb:=DMBNB;have p5:¬ nb=UR.heap.size:=Nat.ne_of_lt NB.out.lt;have p6:¬ UR.heap.size=nb:=Nat.ne_of_gt NB.out.lt;have hz:=MB.out.lt;have hz2:=NB.out.lt;have z3:=MB.out.frozen 3;have b0:=MB.out.cell 0;have b1:=MB.out.cell 1;have b2:=MB.out.cell 2;have b3:=MB.out.cell 3;have b4:=MB.out.cell 4;have d3:=NB.out.cell 3;have dz:=NB.out.frozen 3;have H36:=hid (H35.out.mD MB.out GMB RMB 3 (.slice (some ⟨UR.heap.size,0,none⟩) 1 1));have M36:=hid (M35.out.kL (i:=3) (u:=.slice (some ⟨UR.heap.size,0,none⟩) 1 1) SMB)
   replace L:=hid (L.out.zo MB.out 3 (.slice (some ⟨UR.heap.size,0,none⟩) 1 1))
   replace NB:=hid (NB.out.far (p:=⟨w32.heap.size,3,none⟩) XE (.slice (some ⟨UR.heap.size,0,none⟩) 1 1))
   replace MB:=hid (MB.out.upd 3 (.slice (some ⟨UR.heap.size,0,none⟩) 1 1) (cs':=#[.int .u8 25,.string (aM (s1.word l 1).1),.int .i64 0,.slice (some ⟨UR.heap.size,0,none⟩) 1 1,.int .i64 (s1.place l)]) rfl)
   clear H35 M35;have KA:=hid (H36.out.Hz [hd d] UR.heap.size (by simp));have Y3:∀ b,(Value.slice (some ⟨UR.heap.size,0,none⟩) ([hd d]:List Int).length ([hd d]:List Int).length).ownBlock=some b→w.heap.size≤b:=mM (by have h9:=M36.out.size;simpa using h9);have FLKA:=L.out.apart (k:=UR.heap.size) (n:=([hd d]:List Int).length) (c:=([hd d]:List Int).length) (by simp)
   replace NB:=hid (NB.out.alloc (.cells (intCells [hd d]).toArray 3))
   replace MB:=hid (MB.out.alloc (.cells (intCells [hd d]).toArray 3))
   replace L:=hid (L.out.alloc (.cells (intCells [hd d]).toArray 3))
   have H37:=hid (H36.out.alloc (.cells (intCells [hd d]).toArray 3));have M37:=hid (M36.out.dD (o:=(.cells (intCells [hd d]).toArray 3)));clear H36 M36;go_upto_region 18 with (fail)
   have HD:=hid H37.out.drew;have LD:=hid (L.out.below (Below.drew (Below.refl _ _)));have ND:=hid NB.out.drew;have MD:=hid (M37.out.aL (Below.drew (Below.refl _ _)));have KD:=hid (cB.below KA.out (Below.drew (Below.refl _ _)));clear L NB H37 M37 KA MB
   go_region_law ((first
    | (guard_target =~ ((if Region.wanted _ _=true then _ else _:Prop));refine step_append_lies _ (by rfl) _ _ _ (by rfl) 0 3 j0 _ 1 8 Tryz.underlying24 hj0 hy0 hy1 hy2 rfl (by omega) _ acc.length (intCells acc) (by rfl) (L5.out.alloc _).row ⟨w50.heap.size,0,none⟩ 1 1 [.int .i64 (t2.ns.length:Int)] (by rfl) (by rfl) (cell_one_new _ _ _) (by simp [Value.oneCell']) (by omega) (by simp only [maxLen];omega) (by omega) (aaL _) _ rfl ?_;intro gg cap w6 hown6 vN xC z8;have N6:=hid ((L5.out.alloc (.cells #[.int .i64 (t2.ns.length:Int)] 3)).blk (N5.out.alloc _) vN);have hms:=M5.out.size;have L6:=hid ((L5.out.alloc (.cells #[.int .i64 (t2.ns.length:Int)] 3)).grow (H5.out.alloc _) hown6 xC (Nat.le_trans hms (by simp)));have H6:=hid ((H5.out.alloc _).grow (L5.out.alloc (.cells #[.int .i64 (t2.ns.length:Int)] 3)) vN (fun b hb=>aaK (aaW hg0 (L5.out.lo b hb))));have M6:=hid (M5.out.dD.grow (L5.out.alloc (.cells #[.int .i64 (t2.ns.length:Int)] 3)) vN);clear hown6 vN xC z8;have e6:=N6.out.cell 3;have f6:=N6.out.frozen 3;have Z5:=N6.out.lt)
    | (go_simp;go_at_call 156;go_loud (refine (dZ g tv l iv _ _ _ _ 25 _ _ 0 _ [hd d] HD.out KD.out (by omega)).mono ?_;rintro e w50⟨rfl,nv50,h,m⟩;have H5:=hid h;have M5:=hid (MD.out.gX H5.out m Y3);have R5:=m.ne ND.out.lt bY;have N5:=hid (m.blk ND.out (Nat.ne_of_gt gL) bY);have L5:=hid (LD.out.put HD.out H5.out m FLKA);clear h m;have e5:=N5.out.cell 3;have f5:=N5.out.frozen 3;have Z4:=N5.out.lt))))
   all_goals
    have N7:=hid (N6.out.upd 3 (.slice (some ⟨gg,0,none⟩) (acc.length+1) cap) (cs':=#[.int .u8 24,.string (aM (s.word l 1).1),.int .i64 0,.slice (some ⟨gg,0,none⟩) (acc.length+1) cap,.int .i64 (s.place l)]) rfl);have H7:=hid (H6.out.mD N6.out gL R5 3 (.slice (some ⟨gg,0,none⟩) (acc.length+1) cap));have M7:=hid (M6.out.kL (i:=3) (u:=.slice (some ⟨gg,0,none⟩) (acc.length+1) cap) oG);have L7:=hid (L6.out.zo N6.out 3 (.slice (some ⟨gg,0,none⟩) (acc.length+1) cap));clear N6 H6 M6 L6 e6 f6 e5 f5 N5 L5 H5 M5 Z4 Z5;rcases r with _ | r
    ·exact absurd HR.out (by simp [aK])
    have hr:=HR.out;rw [aK] at hr
    clear HR;obtain⟨t3,ht3⟩:∃ t3,t3=(t2.put ⟨25,(s1.word l 1).1,0,[hd d],s1.place l⟩).2:=⟨_,rfl⟩;have HK3:=hid (show t3.k=t2.k by rw [ht3];rfl);rw [← ht3] at hr H7
    clear ht3;go_wp2_with fail;refine (SF g tv l iv _ t3 _ _ H7.out hl).mono ?_;rintro e w8⟨rfl,h,m⟩;have H8:=hid h;have M8:=hid (M7.out.kJ m);have R8:=m.ne N7.out.lt R5;have N8:=hid (m.blk N7.out (Nat.ne_of_gt gL) R5);have L8:=hid (L7.out.mv H7.out m);clear h m H7 M7 N7 L7;by_cases c9:t3.next l=[44]
    ·rw [if_pos c9] at hr
     obtain⟨b4,t4,r4,hr⟩:=aF hr;have hk4:=(dF (l:=l) (s:=t3) (by rw [c9];simp)).2;rw [show GN l t3=t3.dR from if_pos c9] at H8
     have HIC:=hid (show wC l t3=true by unfold wC;rw [c9];rfl);have HR:=hid hr;have HR4:=hid r4;clear hr r4 c9;rw [HIC.out];go_wp2_with fail;exact⟨⟨true,acc ++ [(t2.ns.length:Int)],some ⟨gg,0,none⟩,cap,t3.dR,_,_,rfl,(fun _=>by rw [aaO];show acc.length+1≤t3.k+1;have:=HK3.out;omega),R8,hid (by rw [if_pos rfl];exact⟨r,r,b4,t4,by omega,by omega,HR4.out,HR.out⟩),by rw [aaO];exact N8,by rw [aaO];exact L8,H8,M8⟩,by rw [iK H8.out,iK HW.out];show 2 * (l.length - (t3.k+1))+1 < 2 * _+1;have:=HK3.out;omega⟩
    ·rw [if_neg c9] at hr
     obtain⟨hq,ht⟩:=dY hr;rw [show GN l t3=t3 from if_neg c9] at H8
     have HIC:=hid (show wC l t3=false by unfold wC;simpa using c9);have HQT:=hid (And.intro hq ht);clear hr c9 hq ht;rw [HIC.out];go_wp2_with fail;exact⟨⟨false,acc ++ [(t2.ns.length:Int)],some ⟨gg,0,none⟩,cap,t3,_,_,rfl,(fun h=>by cases h),R8,hid (by rw [if_neg (by simp)];exact⟨HQT.out.1.symm,HQT.out.2.symm⟩),by rw [aaO];exact N8,by rw [aaO];exact L8,H8,M8⟩,by rw [iK H8.out,iK HW.out];show 2 * (l.length - t3.k)+0 < 2 * _+1;have:=HK3.out;omega⟩
end Go.Proofs.YthepmkjggfijoaaGreatDoor
