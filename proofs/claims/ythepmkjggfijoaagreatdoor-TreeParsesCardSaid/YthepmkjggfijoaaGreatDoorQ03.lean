/-
  A part of the proof.
-/
import Derived.Test.YthepmkjggfijoaaGreatDoorSA
import Derived.Deep.AppendLies
import Derived.Test.YthepmkjggfijoaaGreatDoorQ02
set_option linter.all false
set_option maxRecDepth 100000
set_option maxHeartbeats 2000000
open Go.Lib (hid)
namespace Go.Proofs.YthepmkjggfijoaaGreatDoor
open Go.RowKit Mist
attribute [local go_sem] aj aH aS aB ak
theorem q_cmp (l:List Tok)(hl:l.length≤1000)(n:Nat)(C:∀ m,m≤n→QC 224 l m (.lv .sum)):QC 234 l (n+1) (.lv .cmp):=by
 intro g tv iv w s xs nv qs s' hr hn h;have H0:=hid h;have M0:=hid (Mw.refl (g:=g) (w:=w) (xs:=xs) (nv:=nv));have hle:=h.le;clear h;rw [aa8] at hr
 obtain⟨a1,s1,r1,hr⟩:=aF hr;have hb1:=(bG _ _ _ _ _ hr).few;have Eu:=hid r1;clear r1;have HR:=hid hr;clear hr;go_enter Tryz.func234,Tryz.ntmps234
 go_wp2_with fail;refine (C n (aaJ _) g tv iv _ _ _ _ _ _ Eu.out (by omega) H0.out).mono ?_;rintro e w1⟨rfl,xs1,gW,h,m⟩;have H1:=hid h;have M1:=hid (M0.out.trans m);clear h m H0 M0;go_wp2_with fail;refine (aX g tv l iv _ _ _ _ H1.out hl).mono ?_;rintro e w2⟨rfl,hb⟩;have H2:=hid (H1.out.below hb);have M2:=hid (M1.out.aL hb);clear hb H1 M1;have hr:=HR.out;clear HR Eu;rcases n with _ | m
 ·exact absurd hr (by simp [aK])
 rw [aK] at hr
 by_cases c0:s1.next l=[61,61]
 ·rw [show fB .cmp (s1.next l)=11 by rw [c0];rfl,if_neg (by decide)] at hr
  obtain⟨b,t2,r2,hr⟩:=aF hr;obtain⟨b3,t3,r3,hr⟩:=aF hr;obtain⟨rfl,rfl⟩:=bn r3;rw [if_pos rfl] at hr
  obtain⟨rfl,rfl⟩:=dY hr;have hb3:t2.ns.length≤100000:=by simp only [RS.put,aaO,aaT] at hn;omega
  have e0:(s1.next l == [61,61])=true:=by rw [c0];rfl
  have HR2:=hid r2;have HC:=hid c0;clear hr r2 r3 c0;go_wp2_with fail;refine (vG l hl m (C m (by omega)) g tv iv _ _ _ _ 11 (hd a1) b t2 HR2.out hb3 (by rw [HC.out];simp) H2.out).mono ?_;rintro e w3⟨rfl,Xj,FM,h,m3⟩;have H3:=hid h;have M3:=hid (M2.out.trans m3);clear h m3;go_wp2_with fail;go_ret;exact⟨rfl,_,_,H3.out,M3.out⟩
 by_cases c1:s1.next l=[33,61]
 ·rw [show fB .cmp (s1.next l)=12 by rw [c1];rfl,if_neg (by decide)] at hr
  obtain⟨b,t2,r2,hr⟩:=aF hr;obtain⟨b3,t3,r3,hr⟩:=aF hr;obtain⟨rfl,rfl⟩:=bn r3;rw [if_pos rfl] at hr
  obtain⟨rfl,rfl⟩:=dY hr;have hb3:t2.ns.length≤100000:=by simp only [RS.put,aaO,aaT] at hn;omega
  have e0:(s1.next l == [61,61])=false:=by simpa using c0
  have e1:(s1.next l == [33,61])=true:=by rw [c1];rfl
  have HR2:=hid r2;have HC:=hid c1;clear hr r2 r3 c1;go_wp2_with fail;refine (vG l hl m (C m (by omega)) g tv iv _ _ _ _ 12 (hd a1) b t2 HR2.out hb3 (by rw [HC.out];simp) H2.out).mono ?_;rintro e w3⟨rfl,Xj,FM,h,m3⟩;have H3:=hid h;have M3:=hid (M2.out.trans m3);clear h m3;go_wp2_with fail;go_ret;exact⟨rfl,_,_,H3.out,M3.out⟩
 by_cases c2:s1.next l=[60]
 ·rw [show fB .cmp (s1.next l)=13 by rw [c2];rfl,if_neg (by decide)] at hr
  obtain⟨b,t2,r2,hr⟩:=aF hr;obtain⟨b3,t3,r3,hr⟩:=aF hr;obtain⟨rfl,rfl⟩:=bn r3;rw [if_pos rfl] at hr
  obtain⟨rfl,rfl⟩:=dY hr;have hb3:t2.ns.length≤100000:=by simp only [RS.put,aaO,aaT] at hn;omega
  have e0:(s1.next l == [61,61])=false:=by simpa using c0
  have e1:(s1.next l == [33,61])=false:=by simpa using c1
  have e2:(s1.next l == [60])=true:=by rw [c2];rfl
  have HR2:=hid r2;have HC:=hid c2;clear hr r2 r3 c2;go_wp2_with fail;refine (vG l hl m (C m (by omega)) g tv iv _ _ _ _ 13 (hd a1) b t2 HR2.out hb3 (by rw [HC.out];simp) H2.out).mono ?_;rintro e w3⟨rfl,Xj,FM,h,m3⟩;have H3:=hid h;have M3:=hid (M2.out.trans m3);clear h m3;go_wp2_with fail;go_ret;exact⟨rfl,_,_,H3.out,M3.out⟩
 by_cases c3:s1.next l=[60,61]
 ·rw [show fB .cmp (s1.next l)=14 by rw [c3];rfl,if_neg (by decide)] at hr
  obtain⟨b,t2,r2,hr⟩:=aF hr;obtain⟨b3,t3,r3,hr⟩:=aF hr;obtain⟨rfl,rfl⟩:=bn r3;rw [if_pos rfl] at hr
  obtain⟨rfl,rfl⟩:=dY hr;have hb3:t2.ns.length≤100000:=by simp only [RS.put,aaO,aaT] at hn;omega
  have e0:(s1.next l == [61,61])=false:=by simpa using c0
  have e1:(s1.next l == [33,61])=false:=by simpa using c1
  have e2:(s1.next l == [60])=false:=by simpa using c2
  have e3:(s1.next l == [60,61])=true:=by rw [c3];rfl
  have HR2:=hid r2;have HC:=hid c3;clear hr r2 r3 c3;go_wp2_with fail;refine (vG l hl m (C m (by omega)) g tv iv _ _ _ _ 14 (hd a1) b t2 HR2.out hb3 (by rw [HC.out];simp) H2.out).mono ?_;rintro e w3⟨rfl,Xj,FM,h,m3⟩;have H3:=hid h;have M3:=hid (M2.out.trans m3);clear h m3;go_wp2_with fail;go_ret;exact⟨rfl,_,_,H3.out,M3.out⟩
 by_cases c4:s1.next l=[62]
 ·rw [show fB .cmp (s1.next l)=15 by rw [c4];rfl,if_neg (by decide)] at hr
  obtain⟨b,t2,r2,hr⟩:=aF hr;obtain⟨b3,t3,r3,hr⟩:=aF hr;obtain⟨rfl,rfl⟩:=bn r3;rw [if_pos rfl] at hr
  obtain⟨rfl,rfl⟩:=dY hr;have hb3:t2.ns.length≤100000:=by simp only [RS.put,aaO,aaT] at hn;omega
  have e0:(s1.next l == [61,61])=false:=by simpa using c0
  have e1:(s1.next l == [33,61])=false:=by simpa using c1
  have e2:(s1.next l == [60])=false:=by simpa using c2
  have e3:(s1.next l == [60,61])=false:=by simpa using c3
  have e4:(s1.next l == [62])=true:=by rw [c4];rfl
  have HR2:=hid r2;have HC:=hid c4;clear hr r2 r3 c4;go_wp2_with fail;refine (vG l hl m (C m (by omega)) g tv iv _ _ _ _ 15 (hd a1) b t2 HR2.out hb3 (by rw [HC.out];simp) H2.out).mono ?_;rintro e w3⟨rfl,Xj,FM,h,m3⟩;have H3:=hid h;have M3:=hid (M2.out.trans m3);clear h m3;go_wp2_with fail;go_ret;exact⟨rfl,_,_,H3.out,M3.out⟩
 by_cases c5:s1.next l=[62,61]
 ·rw [show fB .cmp (s1.next l)=16 by rw [c5];rfl,if_neg (by decide)] at hr
  obtain⟨b,t2,r2,hr⟩:=aF hr;obtain⟨b3,t3,r3,hr⟩:=aF hr;obtain⟨rfl,rfl⟩:=bn r3;rw [if_pos rfl] at hr
  obtain⟨rfl,rfl⟩:=dY hr;have hb3:t2.ns.length≤100000:=by simp only [RS.put,aaO,aaT] at hn;omega
  have e0:(s1.next l == [61,61])=false:=by simpa using c0
  have e1:(s1.next l == [33,61])=false:=by simpa using c1
  have e2:(s1.next l == [60])=false:=by simpa using c2
  have e3:(s1.next l == [60,61])=false:=by simpa using c3
  have e4:(s1.next l == [62])=false:=by simpa using c4
  have e5:(s1.next l == [62,61])=true:=by rw [c5];rfl
  have HR2:=hid r2;have HC:=hid c5;clear hr r2 r3 c5;go_wp2_with fail;refine (vG l hl m (C m (by omega)) g tv iv _ _ _ _ 16 (hd a1) b t2 HR2.out hb3 (by rw [HC.out];simp) H2.out).mono ?_;rintro e w3⟨rfl,Xj,FM,h,m3⟩;have H3:=hid h;have M3:=hid (M2.out.trans m3);clear h m3;go_wp2_with fail;go_ret;exact⟨rfl,_,_,H3.out,M3.out⟩
 rw [show fB .cmp (s1.next l)=0 by simp [fB,c0,c1,c2,c3,c4,c5],if_pos rfl] at hr
 have e0:(s1.next l == [61,61])=false:=by simpa using c0
 have e1:(s1.next l == [33,61])=false:=by simpa using c1
 have e2:(s1.next l == [60])=false:=by simpa using c2
 have e3:(s1.next l == [60,61])=false:=by simpa using c3
 have e4:(s1.next l == [62])=false:=by simpa using c4
 have e5:(s1.next l == [62,61])=false:=by simpa using c5
 obtain⟨rfl,rfl⟩:=dY hr;clear hr;go_wp2_with fail;go_ret;exact⟨rfl,_,_,H2.out,M2.out⟩
theorem q_not (l:List Tok)(hl:l.length≤1000)(n:Nat)(C:QC 223 l n (.lv .not))(D:QC 234 l n (.lv .cmp)):QC 223 l (n+1) (.lv .not):=by
 intro g tv iv w s xs nv qs s' hr hn h;have H0:=hid h;have M0:=hid (Mw.refl (g:=g) (w:=w) (xs:=xs) (nv:=nv));have hle:=h.le;clear h;rw [aK] at hr
 by_cases c0:s.next l=[110,111,116]
 ·rw [if_pos c0] at hr
  obtain⟨b,t2,r2,hr⟩:=aF hr;obtain⟨rfl,rfl⟩:=bn hr;have hb3:t2.ns.length≤100000:=by simp only [RS.put,aaO,aaT] at hn;omega
  have hk3:=(dF (l:=l) (s:=s) (by rw [c0];simp)).2;have e0:(s.next l == [110,111,116])=true:=by rw [c0];rfl
  have HR2:=hid r2;clear hr r2 c0;go_enter Tryz.func223,Tryz.ntmps223
  go_wp2_with fail;refine (bM g tv l iv _ _ _ _ H0.out hl).mono ?_;rintro e w1⟨rfl,hb⟩;have H1:=hid (H0.out.below hb);have M1:=hid (M0.out.aL hb);clear hb H0 M0;go_wp2_with fail;refine (aX g tv l iv _ _ _ _ H1.out hl).mono ?_;rintro e w2⟨rfl,hb⟩;have H2:=hid (H1.out.below hb);have M2:=hid (M1.out.aL hb);clear hb H1 M1;have hk3:=hk3;have c1:=H2.out.blk.cell 1;have f1:=H2.out.blk.frozen 1;have H3:=hid (H2.out.dR hk3);have M3:=hid (M2.out.kJ H2.out.vV);clear H2 M2;go_wp2_with fail;clear c1 f1;go_wp2_with fail;refine (C g tv iv _ _ _ _ _ _ HR2.out hb3 H3.out).mono ?_;rintro e w4⟨rfl,xs4,yH,h,m⟩;have H4:=hid h;have M4:=hid (M3.out.trans m);clear h m H3 M3;go_wp2_with fail;refine (dZ g tv l iv _ _ _ _ 5 _ [] 0 _ [hd b] (H4.out.alloc _) (lu _ [hd b]) (by omega)).mono ?_;rintro e w5⟨rfl,Fu,h,m⟩;have H5:=hid h;have M5:=hid (M4.out.dD.gX H5.out m (mM M4.out.size));clear h m H4 M4;go_wp2_with fail;go_ret;exact⟨rfl,_,_,H5.out,M5.out⟩
 ·rw [if_neg c0] at hr
  have e0:(s.next l == [110,111,116])=false:=by simpa using c0
  have HR:=hid hr;clear hr c0;go_enter Tryz.func223,Tryz.ntmps223
  go_wp2_with fail;refine (bM g tv l iv _ _ _ _ H0.out hl).mono ?_;rintro e w1⟨rfl,hb⟩;have H1:=hid (H0.out.below hb);have M1:=hid (M0.out.aL hb);clear hb H0 M0;go_wp2_with fail;refine (aX g tv l iv _ _ _ _ H1.out hl).mono ?_;rintro e w2⟨rfl,hb⟩;have H2:=hid (H1.out.below hb);have M2:=hid (M1.out.aL hb);clear hb H1 M1;go_wp2_with fail;refine (D g tv iv _ _ _ _ _ _ HR.out hn H2.out).mono ?_;rintro e w3⟨rfl,Xj,FM,h,m⟩;have H3:=hid h;have M3:=hid (M2.out.trans m);clear h m H2 M2;go_wp2_with fail;go_ret;exact⟨rfl,_,_,H3.out,M3.out⟩
theorem q_unary (l:List Tok)(hl:l.length≤1000)(n:Nat)(C:QC 226 l n (.lv .unary))(D:QC 235 l n .post):QC 226 l (n+1) (.lv .unary):=by
 intro g tv iv w s xs nv qs s' hr hn h;have H0:=hid h;have M0:=hid (Mw.refl (g:=g) (w:=w) (xs:=xs) (nv:=nv));have hle:=h.le;clear h;rw [aK] at hr
 by_cases c0:s.next l=[45]
 ·rw [if_pos c0] at hr
  obtain⟨b,t2,r2,hr⟩:=aF hr;obtain⟨rfl,rfl⟩:=bn hr;have hb3:t2.ns.length≤100000:=by simp only [RS.put,aaO,aaT] at hn;omega
  have hk3:=(dF (l:=l) (s:=s) (by rw [c0];simp)).2;have e0:(s.next l == [45])=true:=by rw [c0];rfl
  have HR2:=hid r2;clear hr r2 c0;go_enter Tryz.func226,Tryz.ntmps226
  go_wp2_with fail;refine (bM g tv l iv _ _ _ _ H0.out hl).mono ?_;rintro e w1⟨rfl,hb⟩;have H1:=hid (H0.out.below hb);have M1:=hid (M0.out.aL hb);clear hb H0 M0;go_wp2_with fail;refine (aX g tv l iv _ _ _ _ H1.out hl).mono ?_;rintro e w2⟨rfl,hb⟩;have H2:=hid (H1.out.below hb);have M2:=hid (M1.out.aL hb);clear hb H1 M1;have hk3:=hk3;have c1:=H2.out.blk.cell 1;have f1:=H2.out.blk.frozen 1;have H3:=hid (H2.out.dR hk3);have M3:=hid (M2.out.kJ H2.out.vV);clear H2 M2;go_wp2_with fail;clear c1 f1;go_wp2_with fail;refine (C g tv iv _ _ _ _ _ _ HR2.out hb3 H3.out).mono ?_;rintro e w4⟨rfl,xs4,yH,h,m⟩;have H4:=hid h;have M4:=hid (M3.out.trans m);clear h m H3 M3;go_wp2_with fail;refine (dZ g tv l iv _ _ _ _ 4 _ [] 0 _ [hd b] (H4.out.alloc _) (lu _ [hd b]) (by omega)).mono ?_;rintro e w5⟨rfl,Fu,h,m⟩;have H5:=hid h;have M5:=hid (M4.out.dD.gX H5.out m (mM M4.out.size));clear h m H4 M4;go_wp2_with fail;go_ret;exact⟨rfl,_,_,H5.out,M5.out⟩
 ·rw [if_neg c0] at hr
  have e0:(s.next l == [45])=false:=by simpa using c0
  have HR:=hid hr;clear hr c0;go_enter Tryz.func226,Tryz.ntmps226
  go_wp2_with fail;refine (bM g tv l iv _ _ _ _ H0.out hl).mono ?_;rintro e w1⟨rfl,hb⟩;have H1:=hid (H0.out.below hb);have M1:=hid (M0.out.aL hb);clear hb H0 M0;go_wp2_with fail;refine (aX g tv l iv _ _ _ _ H1.out hl).mono ?_;rintro e w2⟨rfl,hb⟩;have H2:=hid (H1.out.below hb);have M2:=hid (M1.out.aL hb);clear hb H1 M1;go_wp2_with fail;refine (D g tv iv _ _ _ _ _ _ HR.out hn H2.out).mono ?_;rintro e w3⟨rfl,Xj,FM,h,m⟩;have H3:=hid h;have M3:=hid (M2.out.trans m);clear h m H2 M2;go_wp2_with fail;go_ret;exact⟨rfl,_,_,H3.out,M3.out⟩
theorem q_expr (l:List Tok)(hl:l.length≤1000)(n:Nat)(C:QC 155 l n .expr)(D:QC 192 l n (.lv .or)):QC 155 l (n+1) .expr:=by
 intro g tv iv w s xs nv qs s' hr hn h;have H0:=hid h;have M0:=hid (Mw.refl (g:=g) (w:=w) (xs:=xs) (nv:=nv));have hle:=h.le;clear h;rw [aK] at hr
 by_cases c0:s.next l=[105,102]
 ·rw [if_pos c0] at hr
  obtain⟨a,t1,r1,hr⟩:=aF hr;obtain⟨b,t2,r2,hr⟩:=aF hr;obtain⟨c,t3,r3,hr⟩:=aF hr;obtain⟨rfl,rfl⟩:=bn hr;have hb3:t3.ns.length≤100000:=by simp only [RS.put,aaO,aaT] at hn;omega
  have hb2:=Nat.le_trans ((To.refl (s:=t2)).take (l:=l) (x:=[101,108,115,101]) (by simp)).few (bG _ _ _ _ _ r3).few;have hb1:=Nat.le_trans ((To.refl (s:=t1)).take (l:=l) (x:=[116,104,101,110]) (by simp)).few (bG _ _ _ _ _ r2).few;have hk3:=(dF (l:=l) (s:=s) (by rw [c0];simp)).2;have e0:(s.next l == [105,102])=true:=by rw [c0];rfl
  have HR1:=hid r1;have HR2:=hid r2;have HR3:=hid r3;clear hr r1 r2 r3 c0;go_enter Tryz.func155,Tryz.ntmps155
  go_wp2_with fail;refine (bM g tv l iv _ _ _ _ H0.out hl).mono ?_;rintro e w1⟨rfl,hb⟩;have H1:=hid (H0.out.below hb);have M1:=hid (M0.out.aL hb);clear hb H0 M0;go_wp2_with fail;refine (aX g tv l iv _ _ _ _ H1.out hl).mono ?_;rintro e w2⟨rfl,hb⟩;have H2:=hid (H1.out.below hb);have M2:=hid (M1.out.aL hb);clear hb H1 M1;have hk3:=hk3;have c1:=H2.out.blk.cell 1;have f1:=H2.out.blk.frozen 1;have H3:=hid (H2.out.dR hk3);have M3:=hid (M2.out.kJ H2.out.vV);clear H2 M2;go_wp2_with fail;clear c1 f1;go_wp2_with fail;refine (C g tv iv _ _ _ _ _ _ HR1.out (by omega) H3.out).mono ?_;rintro e w4⟨rfl,xs4,yH,h,m⟩;have H4:=hid h;have M4:=hid (M3.out.trans m);clear h m H3 M3;go_wp2_with fail;refine (fu g tv l iv _ _ _ _ [116,104,101,110] (by simp) H4.out hl).mono ?_;rintro e w5⟨rfl,h,m⟩;have H5:=hid h;have M5:=hid (M4.out.kJ m);clear h m H4 M4;go_wp2_with fail;refine (C g tv iv _ _ _ _ _ _ HR2.out (by omega) H5.out).mono ?_;rintro e w6⟨rfl,xs6,XB,h,m⟩;have H6:=hid h;have M6:=hid (M5.out.trans m);clear h m H5 M5;go_wp2_with fail;refine (fu g tv l iv _ _ _ _ [101,108,115,101] (by simp) H6.out hl).mono ?_;rintro e w7⟨rfl,h,m⟩;have H7:=hid h;have M7:=hid (M6.out.kJ m);clear h m H6 M6;go_wp2_with fail;refine (C g tv iv _ _ _ _ _ _ HR3.out (by omega) H7.out).mono ?_;rintro e w8⟨rfl,xs8,V_,h,m⟩;have H8:=hid h;have M8:=hid (M7.out.trans m);clear h m H7 M7;go_wp2_with fail;refine (dZ g tv l iv _ _ _ _ 19 _ [] 0 _ [hd a,hd b,hd c] (H8.out.alloc _) (lu _ [hd a,hd b,hd c]) (by omega)).mono ?_;rintro e w9⟨rfl,nv9,h,m⟩;have H9:=hid h;have M9:=hid (M8.out.dD.gX H9.out m (mM M8.out.size));clear h m H8 M8;go_wp2_with fail;go_ret;exact⟨rfl,_,_,H9.out,M9.out⟩
 rw [if_neg c0] at hr
 by_cases c1:s.next l=[108,101,116]
 ·rw [if_pos c1] at hr
  obtain⟨a,t1,r1,hr⟩:=aF hr;obtain⟨b,t2,r2,hr⟩:=aF hr;obtain⟨rfl,rfl⟩:=bn hr;have hb3:t2.ns.length≤100000:=by simp only [RS.put,aaO,aaT] at hn;omega
  have hb1:=Nat.le_trans ((To.refl (s:=t1)).take (l:=l) (x:=[105,110]) (by simp)).few (bG _ _ _ _ _ r2).few;have hk3:=(dF (l:=l) (s:=s) (by rw [c1];simp)).2;have e0:(s.next l == [105,102])=false:=by simpa using c0
  have e1:(s.next l == [108,101,116])=true:=by rw [c1];rfl
  have HR1:=hid r1;have HR2:=hid r2;clear hr r1 r2 c0 c1;go_enter Tryz.func155,Tryz.ntmps155
  go_wp2_with fail;refine (bM g tv l iv _ _ _ _ H0.out hl).mono ?_;rintro e w1⟨rfl,hb⟩;have H1:=hid (H0.out.below hb);have M1:=hid (M0.out.aL hb);clear hb H0 M0;go_wp2_with fail;refine (aX g tv l iv _ _ _ _ H1.out hl).mono ?_;rintro e w2⟨rfl,hb⟩;have H2:=hid (H1.out.below hb);have M2:=hid (M1.out.aL hb);clear hb H1 M1;have hk3:=hk3;have c1:=H2.out.blk.cell 1;have f1:=H2.out.blk.frozen 1;have H3:=hid (H2.out.dR hk3);have M3:=hid (M2.out.kJ H2.out.vV);clear H2 M2;go_wp2_with fail;clear c1 f1;go_wp2_with fail;refine (iR g tv l iv _ _ _ _ 1 (by simp) (by simp) H3.out hl).mono ?_;rintro e w4⟨rfl,h,m⟩;have H4:=hid h;have M4:=hid (M3.out.kJ m);clear h m H3 M3;go_wp2_with fail;refine (fu g tv l iv _ _ _ _ [61] (by simp) H4.out hl).mono ?_;rintro e w5⟨rfl,h,m⟩;have H5:=hid h;have M5:=hid (M4.out.kJ m);clear h m H4 M4;go_wp2_with fail;refine (C g tv iv _ _ _ _ _ _ HR1.out (by omega) H5.out).mono ?_;rintro e w6⟨rfl,xs6,XB,h,m⟩;have H6:=hid h;have M6:=hid (M5.out.trans m);clear h m H5 M5;go_wp2_with fail;refine (fu g tv l iv _ _ _ _ [105,110] (by simp) H6.out hl).mono ?_;rintro e w7⟨rfl,h,m⟩;have H7:=hid h;have M7:=hid (M6.out.kJ m);clear h m H6 M6;go_wp2_with fail;refine (C g tv iv _ _ _ _ _ _ HR2.out (by omega) H7.out).mono ?_;rintro e w8⟨rfl,xs8,V_,h,m⟩;have H8:=hid h;have M8:=hid (M7.out.trans m);clear h m H7 M7;go_wp2_with fail;refine (dZ g tv l iv _ _ _ _ 20 _ _ 0 _ [hd a,hd b] (H8.out.alloc _) (lu _ [hd a,hd b]) (by omega)).mono ?_;rintro e w9⟨rfl,nv9,h,m⟩;have H9:=hid h;have M9:=hid (M8.out.dD.gX H9.out m (mM M8.out.size));clear h m H8 M8;go_wp2_with fail;go_ret;exact⟨rfl,_,_,H9.out,M9.out⟩
 rw [if_neg c1] at hr
 have e0:(s.next l == [105,102])=false:=by simpa using c0
 have e1:(s.next l == [108,101,116])=false:=by simpa using c1
 have HR:=hid hr;clear hr c0 c1;go_enter Tryz.func155,Tryz.ntmps155
 go_wp2_with fail;refine (bM g tv l iv _ _ _ _ H0.out hl).mono ?_;rintro e w1⟨rfl,hb⟩;have H1:=hid (H0.out.below hb);have M1:=hid (M0.out.aL hb);clear hb H0 M0;go_wp2_with fail;refine (aX g tv l iv _ _ _ _ H1.out hl).mono ?_;rintro e w2⟨rfl,hb⟩;have H2:=hid (H1.out.below hb);have M2:=hid (M1.out.aL hb);clear hb H1 M1;go_wp2_with fail;refine (D g tv iv _ _ _ _ _ _ HR.out hn H2.out).mono ?_;rintro e w3⟨rfl,Xj,FM,h,m⟩;have H3:=hid h;have M3:=hid (M2.out.trans m);clear h m H2 M2;go_wp2_with fail;go_ret;exact⟨rfl,_,_,H3.out,M3.out⟩
theorem q_post (l:List Tok)(hl:l.length≤1000)(n:Nat)(C:QC 239 l n .atom)(D:∀ m,m≤n→QC 155 l m .expr):QC 235 l (n+1) .post:=by
 intro g tv iv w s xs nv qs s' hr hn h;have H0:=hid h;have M0:=hid (Mw.refl (g:=g) (w:=w) (xs:=xs) (nv:=nv));have hle:=h.le;clear h;rw [aK] at hr
 obtain⟨a1,t1,r1,hr⟩:=aF hr;have hb1:=(bG _ _ _ _ _ hr).few;have HR:=hid hr;have Eu:=hid r1;clear hr r1;go_enter Tryz.func235,Tryz.ntmps235
 go_wp2_with fail;refine (C g tv iv _ _ _ _ _ _ Eu.out (by omega) H0.out).mono ?_;rintro e w1⟨rfl,xs1,gW,h,m⟩;have H1:=hid h;have M1:=hid (M0.out.trans m);clear h m H0 M0;go_wp2_with fail;go_loopw [3,4,5] (fun v _ _ wr=>∃ (m:Nat) (a:Int) (s1:RS) (xs1:List NV) (gW:Value),v=.int .i64 a∧m≤n∧Hid (aK l m (.iq a) s1=some (qs,s'))∧Hid (QS g tv l iv wr s1 xs1 gW)∧Hid (Mw g w xs nv wr xs1 gW)) (fun _ _ _ wr=>XA l g wr)
 case atStart=>exact⟨n,hd a1,t1,xs1,gW,rfl,aaJ _,HR,H1,M1⟩
 case round =>
  clear HR Eu H1 M1;obtain⟨wo,rfl⟩:∃ wo:World,wo=wr:=⟨_,rfl⟩;obtain⟨m,a,s1,xs1,gW,rfl,hm,HR,H0,M0⟩:=hrel;have HW:=H0;have hr:=HR.out;clear HR;rcases m with _ | m
  ·exact absurd hr (by simp [aK])
  rw [aK] at hr
  by_cases c0:s1.next l=[46]
  ·rw [if_pos c0] at hr
   obtain⟨b3,t3,r3,hr⟩:=aF hr;obtain⟨rfl,rfl⟩:=bn r3;have hb2:=(bG _ _ _ _ _ hr).few;have hb3:(s1.dR.word l 1).2.ns.length≤100000:=by simp only [RS.put,aaO,aaT] at hb2;omega
   have hk3:=(dF (l:=l) (s:=s1) (by rw [c0];simp)).2;have hk2:s1.k+1≤(s1.dR.word l 1).2.k:=(To.refl.word (s:=s1.dR) (by simp)).k;have e0:(s1.next l == [46])=true:=by rw [c0];rfl
   have HR:=hid hr;clear hr r3 c0 hb2;go_wp2_with fail;refine (bM g tv l iv _ _ _ _ H0.out hl).mono ?_;rintro e Et⟨rfl,hb⟩;have lF:=hid (H0.out.below hb);have M11:=hid (M0.out.aL hb);clear hb H0 M0;go_wp2_with fail;refine (aX g tv l iv _ _ _ _ lF.out hl).mono ?_;rintro e wQ⟨rfl,hb⟩;have mh:=hid (lF.out.below hb);have qU:=hid (M11.out.aL hb);clear hb lF M11;have hk13:=hk3;have c1:=mh.out.blk.cell 1;have f1:=mh.out.blk.frozen 1;have zx:=hid (mh.out.dR hk13);have Gd:=hid (qU.out.kJ mh.out.vV);clear mh qU;go_wp2_with fail;clear c1 f1;go_wp2_with fail;refine (iR g tv l iv _ _ _ _ 1 (by simp) (by simp) zx.out hl).mono ?_;rintro e Tx⟨rfl,h,m⟩;have K4:=hid h;have Qp:=hid (Gd.out.kJ m);clear h m zx Gd;go_wp2_with fail;refine (dZ g tv l iv _ _ _ _ 22 _ _ 0 _ [a] (K4.out.alloc _) (lu _ [a]) (by omega)).mono ?_;rintro e JM⟨rfl,aav,h,m⟩;have Xl:=hid h;have M15:=hid (Qp.out.dD.gX Xl.out m (mM Qp.out.size));clear h m K4 Qp;go_wp2_with fail;exact⟨⟨m,_,_,_,aav,rfl,by omega,HR,Xl,M15⟩,by rw [iK Xl.out,iK HW.out];simp only [RS.put];omega⟩
  rw [if_neg c0] at hr
  by_cases c1:s1.next l=[91]
  ·rw [if_pos c1] at hr
   obtain⟨b,t2,r2,hr⟩:=aF hr;obtain⟨b3,t3,r3,hr⟩:=aF hr;obtain⟨rfl,rfl⟩:=bn r3;have hb2:=(bG _ _ _ _ _ hr).few;have hb3:(t2.take l [93]).ns.length≤100000:=by simp only [RS.put,aaO,aaT] at hb2;omega
   have hb4:=((To.refl (s:=t2)).take (l:=l) (x:=[93]) (by simp)).few;have hk3:=(dF (l:=l) (s:=s1) (by rw [c1];simp)).2;have hk2:s1.k+1≤(t2.take l [93]).k:=(((To.refl (s:=s1.dR)).trans (bG _ _ _ _ _ r2)).take (by simp)).k;have e0:(s1.next l == [46])=false:=by simpa using c0
   have e1:(s1.next l == [91])=true:=by rw [c1];rfl
   have HR:=hid hr;have HR2:=hid r2;clear hr r2 r3 c0 c1 hb2;go_wp2_with fail;refine (bM g tv l iv _ _ _ _ H0.out hl).mono ?_;rintro e Et⟨rfl,hb⟩;have lF:=hid (H0.out.below hb);have M11:=hid (M0.out.aL hb);clear hb H0 M0;go_wp2_with fail;refine (aX g tv l iv _ _ _ _ lF.out hl).mono ?_;rintro e wQ⟨rfl,hb⟩;have mh:=hid (lF.out.below hb);have qU:=hid (M11.out.aL hb);clear hb lF M11;have hk13:=hk3;have c1:=mh.out.blk.cell 1;have f1:=mh.out.blk.frozen 1;have zx:=hid (mh.out.dR hk13);have Gd:=hid (qU.out.kJ mh.out.vV);clear mh qU;go_wp2_with fail;clear c1 f1;go_wp2_with fail;refine (D m (by omega) g tv iv _ _ _ _ _ _ HR2.out (by omega) zx.out).mono ?_;rintro e Tx⟨rfl,xs14,nv14,h,m⟩;have K4:=hid h;have Qp:=hid (Gd.out.trans m);clear h m zx Gd;go_wp2_with fail;refine (fu g tv l iv _ _ _ _ [93] (by simp) K4.out hl).mono ?_;rintro e JM⟨rfl,h,m⟩;have Xl:=hid h;have M15:=hid (Qp.out.kJ m);clear h m K4 Qp;go_wp2_with fail;refine (dZ g tv l iv _ _ _ _ 23 _ [] 0 _ [a,hd b] (Xl.out.alloc _) (lu _ [a,hd b]) (by omega)).mono ?_;rintro e w16⟨rfl,nv16,h,m⟩;have H16:=hid h;have M16:=hid (M15.out.dD.gX H16.out m (mM M15.out.size));clear h m Xl M15;go_wp2_with fail;exact⟨⟨m,_,_,_,nv16,rfl,by omega,HR,H16,M16⟩,by rw [iK H16.out,iK HW.out];simp only [RS.put];omega⟩
  rw [if_neg c1] at hr
  have e0:(s1.next l == [46])=false:=by simpa using c0
  have e1:(s1.next l == [91])=false:=by simpa using c1
  obtain⟨rfl,rfl⟩:=dY hr;clear hr c0 c1;go_wp2_with fail;refine (bM g tv l iv _ _ _ _ H0.out hl).mono ?_;rintro e Et⟨rfl,hb⟩;have lF:=hid (H0.out.below hb);have M11:=hid (M0.out.aL hb);clear hb H0 M0;go_wp2_with fail;refine (aX g tv l iv _ _ _ _ lF.out hl).mono ?_;rintro e wQ⟨rfl,hb⟩;have mh:=hid (lF.out.below hb);have qU:=hid (M11.out.aL hb);clear hb lF M11;go_wp2_with fail;go_ret;exact⟨rfl,_,_,mh.out,qU.out⟩
theorem QS.mD {g:Nat}{tv:Value}{l:List Tok}{iv:Value}{w:World}{s:RS}{xs:List NV}{nv:Value}(h:QS g tv l iv w s xs nv){b:Nat}{cs:Array Value}(hB:aC w b 50 cs)(hg:g < b)(hr:some b ≠ nv.ownBlock)(i:Nat)(u:Value):QS g tv l iv (w.setCell ⟨b,i,none⟩ u) s xs nv :=
 ⟨h.blk.far (p:=⟨b,i,none⟩) (Nat.ne_of_lt hg) u,ownsRow_setCell_other h.own (fun e=>hr e.symm) u,fun x hx=>ownsRow_setCell_other (h.kids x hx) (aT (h.kids x hx) hB (by decide)) u,h.toks.below (dx (Below.refl _ _) (aaK hg)),h.ns,h.le⟩
theorem cB.below {w w':World}{v:Value}{ks:List Int}(h:cB w v ks)(hb:Below w.heap.size w w'):cB w' v ks:=own_below h hb
theorem cB.alloc {w:World}{v:Value}{ks:List Int}(h:cB w v ks)(o:Obj):cB (w.alloc o) v ks:=World.ownsRow.alloc h o
theorem cB.zo {w:World}{v:Value}{ks:List Int}(h:cB w v ks){b:Nat}{cs:Array Value}(hB:aC w b 50 cs)(i:Nat)(u:Value):cB (w.setCell ⟨b,i,none⟩ u) v ks:=ownsRow_setCell_other h (aT h hB (by decide)) u
theorem QS.BG {g:Nat}{tv:Value}{l:List Tok}{iv:Value}{w:World}{s:RS}{xs:List NV}{nv:Value}(_h:QS g tv l iv w s xs nv){b:Nat}{T:TypeId}{cs:Array Value}(hB:aC w b T cs)(hg:g < b):aC (w.setCell ⟨g,1,none⟩ (.int .i64 ((s.k:Int)+1))) b T cs:=hB.far (p:=⟨g,1,none⟩) (Nat.ne_of_gt hg) _
theorem QS.Hz {g:Nat}{tv:Value}{l:List Tok}{iv:Value}{w:World}{s:RS}{xs:List NV}{nv:Value}(_h:QS g tv l iv w s xs nv)(ks:List Int)(k:Nat)(hk:w.heap.size=k)(hl:ks.length≤1000:=by first|(simp;done)|(simp;omega)):cB (w.alloc (.cells (intCells ks).toArray 3)) (.slice (some ⟨k,0,none⟩) ks.length ks.length) ks:=by
 subst hk;exact lu w ks hl
theorem aC.upd {w:World}{b:Nat}{T:TypeId}{cs cs':Array Value}(h:aC w b T cs)(i:Nat)(v:Value)(e:cs.setIfInBounds i v=cs'):aC (w.setCell ⟨b,i,none⟩ v) b T cs':=e ▸ h.d_ i v
theorem q_typ (l:List Tok)(hl:l.length≤1000)(hT:∀ t ∈ l,t.text.length≤100000000)(n:Nat)(C:QC 153 l n .typ):QC 153 l (n+1) .typ:=by
 intro g tv iv w s xs nv qs s' hr hn h;have H0:=hid h;have M0:=hid (Mw.refl (g:=g) (w:=w) (xs:=xs) (nv:=nv));have hle:=h.le;clear h;rw [aK] at hr
 by_cases c0:s.next l=[105,110,116]
 ·rw [if_pos c0] at hr
  obtain⟨rfl,rfl⟩:=bn hr;have hb3:s.ns.length≤100000:=by simp only [RS.put,RS.dR,aaO,aaT] at hn;omega
  have hk3:=(dF (l:=l) (s:=s) (by rw [c0];simp)).2;have e0:(s.next l == [105,110,116])=true:=by rw [c0];rfl
  clear hr c0;go_enter Tryz.func153,Tryz.ntmps153
  go_wp2_with fail;refine (bM g tv l iv _ _ _ _ H0.out hl).mono ?_;rintro e w1⟨rfl,hb⟩;have H1:=hid (H0.out.below hb);have M1:=hid (M0.out.aL hb);clear hb H0 M0;have NB:=hid (aC.new w1 50 #[.int .u8 0,.string (aM []),.int .i64 0,.slice none 0 0,.int .i64 (s.place l)]);have gL:g < w1.heap.size:=H1.out.lt;have bY:some w1.heap.size ≠ nv.ownBlock:=fun e=>by have:=H1.out.jf _ e.symm;omega
  have oG:w.heap.size≤w1.heap.size:=M1.out.size;have H2:=hid (H1.out.alloc (.cells #[.int .u8 0,.string (aM []),.int .i64 0,.slice none 0 0,.int .i64 (s.place l)] 50));have M2:=hid (M1.out.dD (o:=.cells #[.int .u8 0,.string (aM []),.int .i64 0,.slice none 0 0,.int .i64 (s.place l)] 50));clear H1 M1;go_wp2_with fail;refine (aX g tv l iv _ _ _ _ H2.out hl).mono ?_;rintro e w3⟨rfl,hb⟩;have H3:=hid (H2.out.below hb);have M3:=hid (M2.out.aL hb)
  replace NB:=hid (NB.out.below hb NB.out.lt)
  clear hb H2 M2;have n1:¬ w1.heap.size=g:=Nat.ne_of_gt gL;have n2:¬ g=w1.heap.size:=Nat.ne_of_lt gL;have z0:=NB.out.frozen 0;have b0:=NB.out.cell 0;have b1:=NB.out.cell 1;have b2:=NB.out.cell 2;have b3:=NB.out.cell 3;have b4:=NB.out.cell 4;have hk4:=hk3;have c1:=H3.out.blk.cell 1;have f1:=H3.out.blk.frozen 1;have H4:=hid (H3.out.dR hk4);have M4:=hid (M3.out.kJ H3.out.vV)
  replace NB:=hid (H3.out.BG NB.out gL)
  clear H3 M3;have H5:=hid (H4.out.mD NB.out gL bY 0 (.int .u8 30));have M5:=hid (M4.out.kL (i:=0) (u:=.int .u8 30) oG)
  replace NB:=hid (NB.out.upd 0 (.int .u8 30) (cs':=#[.int .u8 30,.string (aM []),.int .i64 0,.slice none 0 0,.int .i64 (s.place l)]) rfl)
  clear H4 M4;go_wp2_with fail;refine (dZ g tv l iv _ _ _ _ 30 _ [] 0 _ [] H5.out (cB.none_ _) (by show s.ns.length≤1000000;omega)).mono ?_;rintro e w6⟨rfl,XB,h,m⟩;have H6:=hid h;have M6:=hid (M5.out.gX H6.out m lW);have bH:=m.ne NB.out.lt bY
  replace NB:=hid (m.blk NB.out (Nat.ne_of_gt gL) bY)
  clear bY;have bY:=bH;clear bH;clear h m H5 M5;clear b0 b1 b2 b3 b4 z0;clear c1 f1;go_wp2_with fail;go_ret;exact⟨rfl,_,_,H6.out,M6.out⟩
 rw [if_neg c0] at hr
 by_cases c1:s.next l=[98,111,111,108]
 ·rw [if_pos c1] at hr
  obtain⟨rfl,rfl⟩:=bn hr;have hb3:s.ns.length≤100000:=by simp only [RS.put,RS.dR,aaO,aaT] at hn;omega
  have hk3:=(dF (l:=l) (s:=s) (by rw [c1];simp)).2;have e0:(s.next l == [105,110,116])=false:=by simpa using c0
  have e1:(s.next l == [98,111,111,108])=true:=by rw [c1];rfl
  clear hr c0 c1;go_enter Tryz.func153,Tryz.ntmps153
  go_wp2_with fail;refine (bM g tv l iv _ _ _ _ H0.out hl).mono ?_;rintro e w1⟨rfl,hb⟩;have H1:=hid (H0.out.below hb);have M1:=hid (M0.out.aL hb);clear hb H0 M0;have NB:=hid (aC.new w1 50 #[.int .u8 0,.string (aM []),.int .i64 0,.slice none 0 0,.int .i64 (s.place l)]);have gL:g < w1.heap.size:=H1.out.lt;have bY:some w1.heap.size ≠ nv.ownBlock:=fun e=>by have:=H1.out.jf _ e.symm;omega
  have oG:w.heap.size≤w1.heap.size:=M1.out.size;have H2:=hid (H1.out.alloc (.cells #[.int .u8 0,.string (aM []),.int .i64 0,.slice none 0 0,.int .i64 (s.place l)] 50));have M2:=hid (M1.out.dD (o:=.cells #[.int .u8 0,.string (aM []),.int .i64 0,.slice none 0 0,.int .i64 (s.place l)] 50));clear H1 M1;go_wp2_with fail;refine (aX g tv l iv _ _ _ _ H2.out hl).mono ?_;rintro e w3⟨rfl,hb⟩;have H3:=hid (H2.out.below hb);have M3:=hid (M2.out.aL hb)
  replace NB:=hid (NB.out.below hb NB.out.lt)
  clear hb H2 M2;go_wp2_with fail;refine (aX g tv l iv _ _ _ _ H3.out hl).mono ?_;rintro e w4⟨rfl,hb⟩;have H4:=hid (H3.out.below hb);have M4:=hid (M3.out.aL hb)
  replace NB:=hid (NB.out.below hb NB.out.lt)
  clear hb H3 M3;have n1:¬ w1.heap.size=g:=Nat.ne_of_gt gL;have n2:¬ g=w1.heap.size:=Nat.ne_of_lt gL;have z0:=NB.out.frozen 0;have b0:=NB.out.cell 0;have b1:=NB.out.cell 1;have b2:=NB.out.cell 2;have b3:=NB.out.cell 3;have b4:=NB.out.cell 4;have hk5:=hk3;have c1:=H4.out.blk.cell 1;have f1:=H4.out.blk.frozen 1;have H5:=hid (H4.out.dR hk5);have M5:=hid (M4.out.kJ H4.out.vV)
  replace NB:=hid (H4.out.BG NB.out gL)
  clear H4 M4;have H6:=hid (H5.out.mD NB.out gL bY 0 (.int .u8 31));have M6:=hid (M5.out.kL (i:=0) (u:=.int .u8 31) oG)
  replace NB:=hid (NB.out.upd 0 (.int .u8 31) (cs':=#[.int .u8 31,.string (aM []),.int .i64 0,.slice none 0 0,.int .i64 (s.place l)]) rfl)
  clear H5 M5;go_wp2_with fail;refine (dZ g tv l iv _ _ _ _ 31 _ [] 0 _ [] H6.out (cB.none_ _) (by show s.ns.length≤1000000;omega)).mono ?_;rintro e w7⟨rfl,nv7,h,m⟩;have H7:=hid h;have M7:=hid (M6.out.gX H7.out m lW);have bH:=m.ne NB.out.lt bY
  replace NB:=hid (m.blk NB.out (Nat.ne_of_gt gL) bY)
  clear bY;have bY:=bH;clear bH;clear h m H6 M6;clear b0 b1 b2 b3 b4 z0;clear c1 f1;go_wp2_with fail;go_ret;exact⟨rfl,_,_,H7.out,M7.out⟩
 rw [if_neg c1] at hr
 by_cases c2:s.next l=[91]
 ·rw [if_pos c2] at hr
  obtain⟨a,t1,r1,hr⟩:=aF hr;obtain⟨rfl,rfl⟩:=bn hr;have hb3:(((t1.take l [59]).word l 2).2.take l [93]).ns.length≤100000:=by simp only [RS.put,aaO,aaT] at hn;omega
  have hb1:=((((To.refl (s:=t1)).take (l:=l) (x:=[59]) (by simp)).word (c:=2) (by simp)).take (x:=[93]) (by simp)).few;have hk3:=(dF (l:=l) (s:=s) (by rw [c2];simp)).2;have e0:(s.next l == [105,110,116])=false:=by simpa using c0
  have e1:(s.next l == [98,111,111,108])=false:=by simpa using c1
  have e2:(s.next l == [91])=true:=by rw [c2];rfl
  have HR1:=hid r1;clear hr r1 c0 c1 c2;go_enter Tryz.func153,Tryz.ntmps153
  go_wp2_with fail;refine (bM g tv l iv _ _ _ _ H0.out hl).mono ?_;rintro e w1⟨rfl,hb⟩;have H1:=hid (H0.out.below hb);have M1:=hid (M0.out.aL hb);clear hb H0 M0;have NB:=hid (aC.new w1 50 #[.int .u8 0,.string (aM []),.int .i64 0,.slice none 0 0,.int .i64 (s.place l)]);have gL:g < w1.heap.size:=H1.out.lt;have bY:some w1.heap.size ≠ nv.ownBlock:=fun e=>by have:=H1.out.jf _ e.symm;omega
  have oG:w.heap.size≤w1.heap.size:=M1.out.size;have H2:=hid (H1.out.alloc (.cells #[.int .u8 0,.string (aM []),.int .i64 0,.slice none 0 0,.int .i64 (s.place l)] 50));have M2:=hid (M1.out.dD (o:=.cells #[.int .u8 0,.string (aM []),.int .i64 0,.slice none 0 0,.int .i64 (s.place l)] 50));clear H1 M1;go_wp2_with fail;refine (aX g tv l iv _ _ _ _ H2.out hl).mono ?_;rintro e w3⟨rfl,hb⟩;have H3:=hid (H2.out.below hb);have M3:=hid (M2.out.aL hb)
  replace NB:=hid (NB.out.below hb NB.out.lt)
  clear hb H2 M2;go_wp2_with fail;refine (aX g tv l iv _ _ _ _ H3.out hl).mono ?_;rintro e w4⟨rfl,hb⟩;have H4:=hid (H3.out.below hb);have M4:=hid (M3.out.aL hb)
  replace NB:=hid (NB.out.below hb NB.out.lt)
  clear hb H3 M3;go_wp2_with fail;refine (aX g tv l iv _ _ _ _ H4.out hl).mono ?_;rintro e w5⟨rfl,hb⟩;have H5:=hid (H4.out.below hb);have M5:=hid (M4.out.aL hb)
  replace NB:=hid (NB.out.below hb NB.out.lt)
  clear hb H4 M4;have hk6:=hk3;have c1:=H5.out.blk.cell 1;have f1:=H5.out.blk.frozen 1;have H6:=hid (H5.out.dR hk6);have M6:=hid (M5.out.kJ H5.out.vV)
  replace NB:=hid (H5.out.BG NB.out gL)
  clear H5 M5;go_wp2_with fail;clear c1 f1;go_wp2_with fail;refine (C g tv iv _ _ _ _ _ _ HR1.out (by omega) H6.out).mono ?_;rintro e w7⟨rfl,xs7,nv7,h,m⟩;have H7:=hid h;have M7:=hid (M6.out.trans m);have bH:=m.ne NB.out.lt bY
  replace NB:=hid (m.blk NB.out (Nat.ne_of_gt gL) bY)
  clear bY;have bY:=bH;clear bH;clear h m H6 M6;have n1:¬ w7.heap.size=w1.heap.size:=Nat.ne_of_gt NB.out.lt;have n2:¬ w1.heap.size=w7.heap.size:=Nat.ne_of_lt NB.out.lt;have hz:=NB.out.lt;have z0:=NB.out.frozen 0;have z3:=NB.out.frozen 3;have b0:=NB.out.cell 0;have b3:=NB.out.cell 3;have H8:=hid (H7.out.mD NB.out gL bY 0 (.int .u8 33));have M8:=hid (M7.out.kL (i:=0) (u:=.int .u8 33) oG)
  replace NB:=hid (NB.out.upd 0 (.int .u8 33) (cs':=#[.int .u8 33,.string (aM []),.int .i64 0,.slice none 0 0,.int .i64 (s.place l)]) rfl)
  clear H7 M7;have H9:=hid (H8.out.mD NB.out gL bY 3 (.slice (some ⟨w7.heap.size,0,none⟩) 1 1));have M9:=hid (M8.out.kL (i:=3) (u:=.slice (some ⟨w7.heap.size,0,none⟩) 1 1) oG)
  replace NB:=hid (NB.out.upd 3 (.slice (some ⟨w7.heap.size,0,none⟩) 1 1) (cs':=#[.int .u8 33,.string (aM []),.int .i64 0,.slice (some ⟨w7.heap.size,0,none⟩) 1 1,.int .i64 (s.place l)]) rfl)
  clear H8 M8;have KA:=hid (H9.out.Hz [hd a] w7.heap.size (by simp));have Y3:∀ b,(Value.slice (some ⟨w7.heap.size,0,none⟩) ([hd a]:List Int).length ([hd a]:List Int).length).ownBlock=some b→w.heap.size≤b:=mM (by have h9:=M9.out.size;simpa using h9)
  replace NB:=hid (NB.out.alloc (.cells (intCells [hd a]).toArray 3))
  have Dt:=hid (H9.out.alloc (.cells (intCells [hd a]).toArray 3));have Fz:=hid (M9.out.dD (o:=(.cells (intCells [hd a]).toArray 3)));clear H9 M9;go_wp2_with fail;refine (fu g tv l iv _ _ _ _ [59] (by simp) Dt.out hl).mono ?_;rintro e Et⟨rfl,h,m⟩;have lF:=hid h;have M11:=hid (Fz.out.kJ m);have bH:=m.ne NB.out.lt bY
  replace NB:=hid (m.blk NB.out (Nat.ne_of_gt gL) bY)
  clear bY;have bY:=bH;clear bH
  replace KA:=hid (Dt.out.l6 m KA.out)
  clear h m Dt Fz;clear b0 b3 z0 z3;clear n1 n2 hz;go_wp2_with fail;refine (oq g tv l iv _ _ _ _ hT lF.out hl).mono ?_;rintro e wQ⟨rfl,h,m⟩;have mh:=hid h;have qU:=hid (M11.out.kJ m);have bH:=m.ne NB.out.lt bY
  replace NB:=hid (m.blk NB.out (Nat.ne_of_gt gL) bY)
  clear bY;have bY:=bH;clear bH
  replace KA:=hid (lF.out.l6 m KA.out)
  clear h m lF M11;have z2:=NB.out.frozen 2;have b2:=NB.out.cell 2;have zx:=hid (mh.out.mD NB.out gL bY 2 (.int .i64 (j_ ((t1.take l [59]).word l 2).1)));have Gd:=hid (qU.out.kL (i:=2) (u:=.int .i64 (j_ ((t1.take l [59]).word l 2).1)) oG)
  replace KA:=hid (cB.zo KA.out NB.out 2 (.int .i64 (j_ ((t1.take l [59]).word l 2).1)))
  replace NB:=hid (NB.out.upd 2 (.int .i64 (j_ ((t1.take l [59]).word l 2).1)) (cs':=#[.int .u8 33,.string (aM []),.int .i64 (j_ ((t1.take l [59]).word l 2).1),.slice (some ⟨w7.heap.size,0,none⟩) 1 1,.int .i64 (s.place l)]) rfl)
  clear mh qU;go_wp2_with fail;refine (fu g tv l iv _ _ _ _ [93] (by simp) zx.out hl).mono ?_;rintro e Tx⟨rfl,h,m⟩;have K4:=hid h;have Qp:=hid (Gd.out.kJ m);have bH:=m.ne NB.out.lt bY
  replace NB:=hid (m.blk NB.out (Nat.ne_of_gt gL) bY)
  clear bY;have bY:=bH;clear bH
  replace KA:=hid (zx.out.l6 m KA.out)
  clear h m zx Gd;clear b2 z2;have b0:=NB.out.cell 0;have b1:=NB.out.cell 1;have b2:=NB.out.cell 2;have b3:=NB.out.cell 3;have b4:=NB.out.cell 4;go_wp2_with fail;refine (dZ g tv l iv _ _ _ _ 33 _ [] _ _ [hd a] K4.out KA.out (by omega)).mono ?_;rintro e JM⟨rfl,aav,h,m⟩;have Xl:=hid h;have M15:=hid (Qp.out.gX Xl.out m Y3);have bH:=m.ne NB.out.lt bY
  replace NB:=hid (m.blk NB.out (Nat.ne_of_gt gL) bY)
  clear bY;have bY:=bH;clear bH
  replace KA:=hid (K4.out.l6 m KA.out)
  clear h m K4 Qp;clear b0 b1 b2 b3 b4;go_wp2_with fail;go_ret;exact⟨rfl,_,_,Xl.out,M15.out⟩
 rw [if_neg c2] at hr
 obtain⟨rfl,rfl⟩:=bn hr;have hb3:(s.word l 1).2.ns.length≤100000:=by simp only [RS.put,aaO,aaT] at hn;omega
 have e0:(s.next l == [105,110,116])=false:=by simpa using c0
 have e1:(s.next l == [98,111,111,108])=false:=by simpa using c1
 have e2:(s.next l == [91])=false:=by simpa using c2
 clear hr c0 c1 c2;go_enter Tryz.func153,Tryz.ntmps153
 go_wp2_with fail;refine (bM g tv l iv _ _ _ _ H0.out hl).mono ?_;rintro e w1⟨rfl,hb⟩;have H1:=hid (H0.out.below hb);have M1:=hid (M0.out.aL hb);clear hb H0 M0;have NB:=hid (aC.new w1 50 #[.int .u8 0,.string (aM []),.int .i64 0,.slice none 0 0,.int .i64 (s.place l)]);have gL:g < w1.heap.size:=H1.out.lt;have bY:some w1.heap.size ≠ nv.ownBlock:=fun e=>by have:=H1.out.jf _ e.symm;omega
 have oG:w.heap.size≤w1.heap.size:=M1.out.size;have H2:=hid (H1.out.alloc (.cells #[.int .u8 0,.string (aM []),.int .i64 0,.slice none 0 0,.int .i64 (s.place l)] 50));have M2:=hid (M1.out.dD (o:=.cells #[.int .u8 0,.string (aM []),.int .i64 0,.slice none 0 0,.int .i64 (s.place l)] 50));clear H1 M1;go_wp2_with fail;refine (aX g tv l iv _ _ _ _ H2.out hl).mono ?_;rintro e w3⟨rfl,hb⟩;have H3:=hid (H2.out.below hb);have M3:=hid (M2.out.aL hb)
 replace NB:=hid (NB.out.below hb NB.out.lt)
 clear hb H2 M2;go_wp2_with fail;refine (aX g tv l iv _ _ _ _ H3.out hl).mono ?_;rintro e w4⟨rfl,hb⟩;have H4:=hid (H3.out.below hb);have M4:=hid (M3.out.aL hb)
 replace NB:=hid (NB.out.below hb NB.out.lt)
 clear hb H3 M3;go_wp2_with fail;refine (aX g tv l iv _ _ _ _ H4.out hl).mono ?_;rintro e w5⟨rfl,hb⟩;have H5:=hid (H4.out.below hb);have M5:=hid (M4.out.aL hb)
 replace NB:=hid (NB.out.below hb NB.out.lt)
 clear hb H4 M4;go_wp2_with fail;refine (iR g tv l iv _ _ _ _ 1 (by simp) (by simp) H5.out hl).mono ?_;rintro e w6⟨rfl,h,m⟩;have H6:=hid h;have M6:=hid (M5.out.kJ m);have bH:=m.ne NB.out.lt bY
 replace NB:=hid (m.blk NB.out (Nat.ne_of_gt gL) bY)
 clear bY;have bY:=bH;clear bH;clear h m H5 M5;have z0:=NB.out.frozen 0;have z1:=NB.out.frozen 1;have b0:=NB.out.cell 0;have b1:=NB.out.cell 1;have b2:=NB.out.cell 2;have b3:=NB.out.cell 3;have b4:=NB.out.cell 4;have H7:=hid (H6.out.mD NB.out gL bY 0 (.int .u8 32));have M7:=hid (M6.out.kL (i:=0) (u:=.int .u8 32) oG)
 replace NB:=hid (NB.out.upd 0 (.int .u8 32) (cs':=#[.int .u8 32,.string (aM []),.int .i64 0,.slice none 0 0,.int .i64 (s.place l)]) rfl)
 clear H6 M6;have H8:=hid (H7.out.mD NB.out gL bY 1 (.string (aM (s.word l 1).1)));have M8:=hid (M7.out.kL (i:=1) (u:=.string (aM (s.word l 1).1)) oG)
 replace NB:=hid (NB.out.upd 1 (.string (aM (s.word l 1).1)) (cs':=#[.int .u8 32,.string (aM (s.word l 1).1),.int .i64 0,.slice none 0 0,.int .i64 (s.place l)]) rfl)
 clear H7 M7;go_wp2_with fail;refine (dZ g tv l iv _ _ _ _ 32 _ _ 0 _ [] H8.out (cB.none_ _) (by omega)).mono ?_;rintro e w9⟨rfl,nv9,h,m⟩;have H9:=hid h;have M9:=hid (M8.out.gX H9.out m lW);have bH:=m.ne NB.out.lt bY
 replace NB:=hid (m.blk NB.out (Nat.ne_of_gt gL) bY)
 clear bY;have bY:=bH;clear bH;clear h m H8 M8;clear b0 b1 b2 b3 b4 z0 z1;go_wp2_with fail;go_ret;exact⟨rfl,_,_,H9.out,M9.out⟩
end Go.Proofs.YthepmkjggfijoaaGreatDoor
namespace Go.Proofs.YthepmkjggfijoaaGreatDoor
open Go.RowKit Mist
structure LR (w0 w:World) (xs:List NV) (v:Value) (ks:List Int):Prop where
 row:cB w v ks
 lo:∀ b,v.ownBlock=some b→w0.heap.size≤b
 far:∀ x ∈ xs,x.2.ownBlock=none∨x.2.ownBlock ≠ v.ownBlock
section
variable {g:Nat} {tv:Value} {l:List Tok} {iv:Value} {w0 w w1:World} {s:RS} {xs xs1:List NV} {nv gW:Value} {v:Value} {ks:List Int}
theorem cB.lt (h:cB w v ks):∀ b,v.ownBlock=some b→b < w.heap.size:=fun b hb=>(World.ownsRow.lt h b hb).2
theorem LR.below (h:LR w0 w xs v ks)(hb:Below w.heap.size w w1):LR w0 w1 xs v ks:=⟨cB.below h.row hb,h.lo,h.far⟩
theorem LR.alloc (h:LR w0 w xs v ks)(o:Obj):LR w0 (w.alloc o) xs v ks:=⟨cB.alloc h.row o,h.lo,h.far⟩
theorem LR.mv (h:LR w0 w xs v ks)(q:QS g tv l iv w s xs nv)(m:Mv g nv.ownBlock w gW.ownBlock w1):LR w0 w1 xs v ks:=⟨q.l6 m h.row,h.lo,h.far⟩
theorem LR.mw (h:LR w0 w xs v ks)(q:QS g tv l iv w s xs nv)(m:Mw g w xs nv w1 xs1 gW):LR w0 w1 xs1 v ks:=by
 refine⟨q.l6 m.mv h.row,h.lo,fun x hx=>?_⟩
 obtain⟨ys,rfl,hy⟩:=m.new;rcases List.mem_append.1 hx with hx | hx
 ·exact h.far x hx
 ·rcases h9:x.2.ownBlock with _ | b
  ·exact .inl rfl
  ·right
   intro e;have h1:=hy x hx b h9;have h2:=cB.lt h.row b e.symm;omega
theorem LR.put (h:LR w0 w xs v ks)(q:QS g tv l iv w s xs nv){x:NV}{s2:RS}(_q2:QS g tv l iv w1 s2 (xs ++ [x]) gW)(m:Mv g nv.ownBlock w gW.ownBlock w1)(hx:x.2.ownBlock=none∨x.2.ownBlock ≠ v.ownBlock):LR w0 w1 (xs ++ [x]) v ks:=by
 refine⟨q.l6 m h.row,h.lo,fun y hy=>?_⟩
 rcases List.mem_append.1 hy with hy | hy
 ·exact h.far y hy
 ·rw [List.mem_singleton.1 hy];exact hx
theorem LR.zo (h:LR w0 w xs v ks){b:Nat}{cs:Array Value}(hB:aC w b 50 cs)(i:Nat)(u:Value):LR w0 (w.setCell ⟨b,i,none⟩ u) xs v ks:=⟨cB.zo h.row hB i u,h.lo,h.far⟩
theorem LR.nil (w0 w:World)(xs:List NV):LR w0 w xs (.slice none 0 0) []:=⟨cB.none_ _,fun b hb=>by simp [Value.ownBlock] at hb,fun x hx=>by
 rcases h9:x.2.ownBlock with _ | b
 ·exact .inl rfl
 ·right;simp [Value.ownBlock]⟩
theorem LR.made (q:QS g tv l iv w s xs nv){k n c:Nat}(hk:w.heap.size=k)(h0:w0.heap.size≤k)(h:cB (w.alloc (.cells (intCells ks).toArray 3)) (.slice (some ⟨k,0,none⟩) n c) ks):LR w0 (w.alloc (.cells (intCells ks).toArray 3)) xs (.slice (some ⟨k,0,none⟩) n c) ks:=by
 refine⟨h,fun b hb=>by simp [Value.ownBlock] at hb;omega,fun x hx=>?_⟩
 rcases h9:x.2.ownBlock with _ | b
 ·exact .inl rfl
 ·right
  intro e;have h1:=cB.lt (q.kids x hx) b h9;simp [Value.ownBlock] at e
  omega
theorem LR.empty (q:QS g tv l iv w s xs nv){k:Nat}(hk:w.heap.size=k)(h0:w0.heap.size≤k):LR w0 (w.alloc (.cells #[] 3)) xs (.slice (some ⟨k,0,none⟩) 0 0) []:=by
 subst hk;exact LR.made (ks:=[]) (n:=0) (c:=0) q rfl h0 (World.ownsRow_lit (base:=0) (e:=3) (size:=1) w #[] 0 (aaL _) (by simp [maxLen]) rfl)
theorem LR.apart (h:LR w0 w xs v ks){k n c:Nat}(hk:w.heap.size≤k):(Value.slice (some ⟨k,0,none⟩) n c).ownBlock=none∨(Value.slice (some ⟨k,0,none⟩) n c).ownBlock ≠ v.ownBlock:=by
 right
 intro e
 have:=cB.lt h.row k (by rw [← e];rfl)
 omega
theorem LR.grow (h:LR w0 w xs v ks){gg cap:Nat}{k:Int}(q:QS g tv l iv w s xs nv)(hown:w1.ownsRow 0 3 1 (.slice (some ⟨gg,0,none⟩) (ks.length+1) cap) (ks.length+1) (intCells ks ++ [.int .i64 k]))(hat:v.ownBlock=some gg∨gg=w.heap.size)(h0:w0.heap.size≤w.heap.size):LR w0 w1 xs (.slice (some ⟨gg,0,none⟩) (ks.length+1) cap) (ks ++ [k]):=by
 refine⟨?_,fun b hb=>?_,fun x hx=>?_⟩
 ·unfold cB;rw [aaO,eT];exact hown
 ·have hb:gg=b:=by simpa [Value.ownBlock] using hb
  subst hb;rcases hat with e | e
  ·exact h.lo _ e
  ·omega
 ·rcases hat with e | e
  ·have:=h.far x hx
   rw [e] at this
   simpa [Value.ownBlock] using this
  ·rcases h9:x.2.ownBlock with _ | b
   ·exact .inl rfl
   ·right
    intro e2;have h1:=cB.lt (q.kids x hx) b h9;simp [Value.ownBlock] at e2
    omega
theorem QS.grow (q:QS g tv l iv w s xs nv)(h:LR w0 w xs v ks)(hg:w.grownBy w1 v.ownBlock)(h0:∀ b,v.ownBlock=some b→g≤b):QS g tv l iv w1 s xs nv :=
 ⟨q.blk.grown hg (fun e=>aT h.row q.blk (by decide) e.symm),q.own.kept hg (iE q.own h.row (by decide)),fun x hx=>World.ownsRow.kept (q.kids x hx) hg (h.far x hx),q.toks.below ((Below.refl _ _).grown hg (aaK q.lt) h0),q.ns,q.le⟩
theorem Mw.grow (m:Mw g w0 xs nv w xs1 gW)(h:LR w0 w xs1 v ks)(hg:w.grownBy w1 v.ownBlock):Mw g w0 xs nv w1 xs1 gW :=
 ⟨⟨hg.os.trans m.mv.os,hg.tape.trans m.mv.tape,hg.output.trans m.mv.output,Nat.le_trans m.size hg.size,fun b hb hg2 hr=>(hg.block b (aaW hb m.size) (fun e=>by have:=h.lo b e.symm;omega)).trans (m.mv.block b hb hg2 hr),m.mv.tgt⟩,m.new⟩
theorem LR.blk (h:LR w0 w xs v ks){b:Nat}{cs:Array Value}(hB:aC w b 50 cs)(hg:w.grownBy w1 v.ownBlock):aC w1 b 50 cs:=hB.grown hg (fun e=>aT h.row hB (by decide) e.symm)
end
end Go.Proofs.YthepmkjggfijoaaGreatDoor
