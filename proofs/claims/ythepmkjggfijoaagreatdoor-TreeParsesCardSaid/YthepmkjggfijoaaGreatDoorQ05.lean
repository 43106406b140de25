/-
  A part of the proof.
-/
import Derived.Test.YthepmkjggfijoaaGreatDoorSA
import Derived.Test.YthepmkjggfijoaaGreatDoorQ04
set_option linter.all false
set_option maxRecDepth 100000
set_option maxHeartbeats 2000000
open Go.Lib (hid)
namespace Go.Proofs.YthepmkjggfijoaaGreatDoor
open Go.RowKit Mist
attribute [local go_sem] aj aH aS aB ak
theorem q_named (l:List Tok)(hl:l.length≤1000)(n:Nat)(C:∀ m,m < n→QC 155 l m .expr)(D:QL 246 l n (.list .expr))(g:Nat)(tv iv:Value)(w:World)(s:RS)(xs:List NV)(nv:Value)(qs:List Int)(s':RS)(hr:yM l n s=some (qs,s'))(hn:s'.ns.length≤100000)(h:QS g tv l iv w s xs nv) :
  Calls Tryz.prog 247 #[.pointer (some ⟨g,0,none⟩)] w fun e w'=>e=.returned (.int .i64 (hd qs))∧∃ xs' eO,QS g tv l iv w' s' xs' eO∧Mw g w xs nv w' xs' eO:=by
 by_cases c0:(s.word l 1).2.next l=[40]
 ·exact q_call l hl n D g tv iv w s xs nv qs s' c0 hr hn h
 ·by_cases c1:(s.word l 1).2.next l=[123]
  ·exact aa5 l hl n C g tv iv w s xs nv qs s' c0 c1 hr hn h
  ·exact q_name l hl n g tv iv w s xs nv qs s' c0 c1 hr hn h
theorem q_atom (l:List Tok)(hl:l.length≤1000)(hT:∀ t ∈ l,t.text.length≤100000000)(n:Nat)(C:∀ m,m≤n→QC 155 l m .expr)(D:QL 246 l n (.list .expr)):QC 239 l (n+1) .atom:=by
 intro g tv iv w s xs nv qs s' hr hn h;have H0:=hid h;have M0:=hid (Mw.refl (g:=g) (w:=w) (xs:=xs) (nv:=nv));have hle:=h.le;clear h;rw [aK] at hr
 by_cases ck:s.kind l=2
 ·rw [if_pos ck] at hr
  obtain⟨rfl,rfl⟩:=bn hr;have hb3:(s.word l 2).2.ns.length≤100000:=by simp only [RS.put,RS.dR,aaO,aaT] at hn;omega
  have ek:(s.kind l == 2)=true:=by rw [ck];rfl
  have ek':((s.kind l:Int) == 2)=true:=by rw [ck];rfl
  clear hr ck;go_enter Tryz.func239,Tryz.ntmps239
  go_wp2_with fail;refine (aX g tv l iv _ _ _ _ H0.out hl).mono ?_;rintro e w1⟨rfl,hb⟩;have H1:=hid (H0.out.below hb);have M1:=hid (M0.out.aL hb);clear hb H0 M0;go_wp2_with fail;refine (bM g tv l iv _ _ _ _ H1.out hl).mono ?_;rintro e w2⟨rfl,hb⟩;have H2:=hid (H1.out.below hb);have M2:=hid (M1.out.aL hb);clear hb H1 M1;have NB:=hid (aC.new w2 50 #[.int .u8 0,.string (aM []),.int .i64 0,.slice none 0 0,.int .i64 (s.place l)]);have gL:g < w2.heap.size:=H2.out.lt;have bY:some w2.heap.size ≠ nv.ownBlock:=fun e=>by have:=H2.out.jf _ e.symm;omega
  have oG:w.heap.size≤w2.heap.size:=M2.out.size;have H3:=hid (H2.out.alloc (.cells #[.int .u8 0,.string (aM []),.int .i64 0,.slice none 0 0,.int .i64 (s.place l)] 50));have M3:=hid (M2.out.dD (o:=.cells #[.int .u8 0,.string (aM []),.int .i64 0,.slice none 0 0,.int .i64 (s.place l)] 50));clear H2 M2;go_wp2_with fail;refine (iQ g tv l iv _ _ _ _ H3.out hl).mono ?_;rintro e w4⟨rfl,hb⟩;have H4:=hid (H3.out.below hb);have M4:=hid (M3.out.aL hb)
  replace NB:=hid (NB.out.below hb NB.out.lt)
  clear hb H3 M3;go_wp2_with fail;refine (oq g tv l iv _ _ _ _ hT H4.out hl).mono ?_;rintro e w5⟨rfl,h,m⟩;have H5:=hid h;have M5:=hid (M4.out.kJ m);have bH:=m.ne NB.out.lt bY
  replace NB:=hid (m.blk NB.out (Nat.ne_of_gt gL) bY)
  clear bY;have bY:=bH;clear bH;clear h m H4 M4;have z0:=NB.out.frozen 0;have z2:=NB.out.frozen 2;have b0:=NB.out.cell 0;have b1:=NB.out.cell 1;have b2:=NB.out.cell 2;have b3:=NB.out.cell 3;have b4:=NB.out.cell 4;have H6:=hid (H5.out.mD NB.out gL bY 0 (.int .u8 1));have M6:=hid (M5.out.kL (i:=0) (u:=.int .u8 1) oG)
  replace NB:=hid (NB.out.upd 0 (.int .u8 1) (cs':=#[.int .u8 1,.string (aM []),.int .i64 0,.slice none 0 0,.int .i64 (s.place l)]) rfl)
  clear H5 M5;have H7:=hid (H6.out.mD NB.out gL bY 2 (.int .i64 (j_ (s.word l 2).1)));have M7:=hid (M6.out.kL (i:=2) (u:=.int .i64 (j_ (s.word l 2).1)) oG)
  replace NB:=hid (NB.out.upd 2 (.int .i64 (j_ (s.word l 2).1)) (cs':=#[.int .u8 1,.string (aM []),.int .i64 (j_ (s.word l 2).1),.slice none 0 0,.int .i64 (s.place l)]) rfl)
  clear H6 M6;go_wp2_with fail;refine (dZ g tv l iv _ _ _ _ 1 _ [] _ _ [] H7.out (cB.none_ _) (by omega)).mono ?_;rintro e w8⟨rfl,V_,h,m⟩;have H8:=hid h;have M8:=hid (M7.out.gX H8.out m lW);have bH:=m.ne NB.out.lt bY
  replace NB:=hid (m.blk NB.out (Nat.ne_of_gt gL) bY)
  clear bY;have bY:=bH;clear bH;clear h m H7 M7;clear b0 b1 b2 b3 b4 z0 z2;go_wp2_with fail;go_ret;exact⟨rfl,_,_,H8.out,M8.out⟩
 rw [if_neg ck] at hr
 have ek:(s.kind l == 2)=false:=by simpa using ck
 have ek':((s.kind l:Int) == 2)=false:=by simp;omega
 clear ck;by_cases c0:s.next l=[116,114,117,101]
 ·rw [if_pos c0] at hr
  obtain⟨rfl,rfl⟩:=bn hr;have hb3:s.ns.length≤100000:=by simp only [RS.put,RS.dR,aaO,aaT] at hn;omega
  have hk3:=(dF (l:=l) (s:=s) (by rw [c0];simp)).2;have e0:(s.next l == [116,114,117,101])=true:=by rw [c0];rfl
  clear hr c0;go_enter Tryz.func239,Tryz.ntmps239
  go_wp2_with fail;refine (aX g tv l iv _ _ _ _ H0.out hl).mono ?_;rintro e w1⟨rfl,hb⟩;have H1:=hid (H0.out.below hb);have M1:=hid (M0.out.aL hb);clear hb H0 M0;go_wp2_with fail;refine (bM g tv l iv _ _ _ _ H1.out hl).mono ?_;rintro e w2⟨rfl,hb⟩;have H2:=hid (H1.out.below hb);have M2:=hid (M1.out.aL hb);clear hb H1 M1;have NB:=hid (aC.new w2 50 #[.int .u8 0,.string (aM []),.int .i64 0,.slice none 0 0,.int .i64 (s.place l)]);have gL:g < w2.heap.size:=H2.out.lt;have bY:some w2.heap.size ≠ nv.ownBlock:=fun e=>by have:=H2.out.jf _ e.symm;omega
  have oG:w.heap.size≤w2.heap.size:=M2.out.size;have H3:=hid (H2.out.alloc (.cells #[.int .u8 0,.string (aM []),.int .i64 0,.slice none 0 0,.int .i64 (s.place l)] 50));have M3:=hid (M2.out.dD (o:=.cells #[.int .u8 0,.string (aM []),.int .i64 0,.slice none 0 0,.int .i64 (s.place l)] 50));clear H2 M2;go_wp2_with fail;refine (iQ g tv l iv _ _ _ _ H3.out hl).mono ?_;rintro e w4⟨rfl,hb⟩;have H4:=hid (H3.out.below hb);have M4:=hid (M3.out.aL hb)
  replace NB:=hid (NB.out.below hb NB.out.lt)
  clear hb H3 M3;have n1:¬ w2.heap.size=g:=Nat.ne_of_gt gL;have n2:¬ g=w2.heap.size:=Nat.ne_of_lt gL;have z0:=NB.out.frozen 0;have z2:=NB.out.frozen 2;have b0:=NB.out.cell 0;have b1:=NB.out.cell 1;have b2:=NB.out.cell 2;have b3:=NB.out.cell 3;have b4:=NB.out.cell 4;have hk5:=hk3;have c1:=H4.out.blk.cell 1;have f1:=H4.out.blk.frozen 1;have H5:=hid (H4.out.dR hk5);have M5:=hid (M4.out.kJ H4.out.vV)
  replace NB:=hid (H4.out.BG NB.out gL)
  clear H4 M4;have H6:=hid (H5.out.mD NB.out gL bY 0 (.int .u8 2));have M6:=hid (M5.out.kL (i:=0) (u:=.int .u8 2) oG)
  replace NB:=hid (NB.out.upd 0 (.int .u8 2) (cs':=#[.int .u8 2,.string (aM []),.int .i64 0,.slice none 0 0,.int .i64 (s.place l)]) rfl)
  clear H5 M5;have H7:=hid (H6.out.mD NB.out gL bY 2 (.int .i64 1));have M7:=hid (M6.out.kL (i:=2) (u:=.int .i64 1) oG)
  replace NB:=hid (NB.out.upd 2 (.int .i64 1) (cs':=#[.int .u8 2,.string (aM []),.int .i64 1,.slice none 0 0,.int .i64 (s.place l)]) rfl)
  clear H6 M6;go_wp2_with fail;refine (dZ g tv l iv _ _ _ _ 2 _ [] 1 _ [] H7.out (cB.none_ _) (by show s.ns.length≤1000000;omega)).mono ?_;rintro e w8⟨rfl,V_,h,m⟩;have H8:=hid h;have M8:=hid (M7.out.gX H8.out m lW);have bH:=m.ne NB.out.lt bY
  replace NB:=hid (m.blk NB.out (Nat.ne_of_gt gL) bY)
  clear bY;have bY:=bH;clear bH;clear h m H7 M7;clear b0 b1 b2 b3 b4 z0 z2;clear c1 f1;go_wp2_with fail;go_ret;exact⟨rfl,_,_,H8.out,M8.out⟩
 rw [if_neg c0] at hr
 by_cases c1:s.next l=[102,97,108,115,101]
 ·rw [if_pos c1] at hr
  obtain⟨rfl,rfl⟩:=bn hr;have hb3:s.ns.length≤100000:=by simp only [RS.put,RS.dR,aaO,aaT] at hn;omega
  have hk3:=(dF (l:=l) (s:=s) (by rw [c1];simp)).2;have e0:(s.next l == [116,114,117,101])=false:=by simpa using c0
  have e1:(s.next l == [102,97,108,115,101])=true:=by rw [c1];rfl
  clear hr c0 c1;go_enter Tryz.func239,Tryz.ntmps239
  go_wp2_with fail;refine (aX g tv l iv _ _ _ _ H0.out hl).mono ?_;rintro e w1⟨rfl,hb⟩;have H1:=hid (H0.out.below hb);have M1:=hid (M0.out.aL hb);clear hb H0 M0;go_wp2_with fail;refine (bM g tv l iv _ _ _ _ H1.out hl).mono ?_;rintro e w2⟨rfl,hb⟩;have H2:=hid (H1.out.below hb);have M2:=hid (M1.out.aL hb);clear hb H1 M1;have NB:=hid (aC.new w2 50 #[.int .u8 0,.string (aM []),.int .i64 0,.slice none 0 0,.int .i64 (s.place l)]);have gL:g < w2.heap.size:=H2.out.lt;have bY:some w2.heap.size ≠ nv.ownBlock:=fun e=>by have:=H2.out.jf _ e.symm;omega
  have oG:w.heap.size≤w2.heap.size:=M2.out.size;have H3:=hid (H2.out.alloc (.cells #[.int .u8 0,.string (aM []),.int .i64 0,.slice none 0 0,.int .i64 (s.place l)] 50));have M3:=hid (M2.out.dD (o:=.cells #[.int .u8 0,.string (aM []),.int .i64 0,.slice none 0 0,.int .i64 (s.place l)] 50));clear H2 M2;go_wp2_with fail;refine (iQ g tv l iv _ _ _ _ H3.out hl).mono ?_;rintro e w4⟨rfl,hb⟩;have H4:=hid (H3.out.below hb);have M4:=hid (M3.out.aL hb)
  replace NB:=hid (NB.out.below hb NB.out.lt)
  clear hb H3 M3;have n1:¬ w2.heap.size=g:=Nat.ne_of_gt gL;have n2:¬ g=w2.heap.size:=Nat.ne_of_lt gL;have z0:=NB.out.frozen 0;have z2:=NB.out.frozen 2;have b0:=NB.out.cell 0;have b1:=NB.out.cell 1;have b2:=NB.out.cell 2;have b3:=NB.out.cell 3;have b4:=NB.out.cell 4;have hk5:=hk3;have c1:=H4.out.blk.cell 1;have f1:=H4.out.blk.frozen 1;have H5:=hid (H4.out.dR hk5);have M5:=hid (M4.out.kJ H4.out.vV)
  replace NB:=hid (H4.out.BG NB.out gL)
  clear H4 M4;have H6:=hid (H5.out.mD NB.out gL bY 0 (.int .u8 2));have M6:=hid (M5.out.kL (i:=0) (u:=.int .u8 2) oG)
  replace NB:=hid (NB.out.upd 0 (.int .u8 2) (cs':=#[.int .u8 2,.string (aM []),.int .i64 0,.slice none 0 0,.int .i64 (s.place l)]) rfl)
  clear H5 M5;go_wp2_with fail;refine (dZ g tv l iv _ _ _ _ 2 _ [] 0 _ [] H6.out (cB.none_ _) (by show s.ns.length≤1000000;omega)).mono ?_;rintro e w7⟨rfl,nv7,h,m⟩;have H7:=hid h;have M7:=hid (M6.out.gX H7.out m lW);have bH:=m.ne NB.out.lt bY
  replace NB:=hid (m.blk NB.out (Nat.ne_of_gt gL) bY)
  clear bY;have bY:=bH;clear bH;clear h m H6 M6;clear b0 b1 b2 b3 b4 z0 z2;clear c1 f1;go_wp2_with fail;go_ret;exact⟨rfl,_,_,H7.out,M7.out⟩
 rw [if_neg c1] at hr
 by_cases c2:s.next l=[40]
 ·rw [if_pos c2] at hr
  obtain⟨a,t1,r1,hr⟩:=aF hr;obtain⟨rfl,rfl⟩:=dY hr;have hb1:=((To.refl (s:=t1)).take (l:=l) (x:=[41]) (by simp)).few;have hk3:=(dF (l:=l) (s:=s) (by rw [c2];simp)).2;have e0:(s.next l == [116,114,117,101])=false:=by simpa using c0
  have e1:(s.next l == [102,97,108,115,101])=false:=by simpa using c1
  have e2:(s.next l == [40])=true:=by rw [c2];rfl
  have HR1:=hid r1;clear hr r1 c0 c1 c2;go_enter Tryz.func239,Tryz.ntmps239
  go_wp2_with fail;refine (aX g tv l iv _ _ _ _ H0.out hl).mono ?_;rintro e w1⟨rfl,hb⟩;have H1:=hid (H0.out.below hb);have M1:=hid (M0.out.aL hb);clear hb H0 M0;go_wp2_with fail;refine (bM g tv l iv _ _ _ _ H1.out hl).mono ?_;rintro e w2⟨rfl,hb⟩;have H2:=hid (H1.out.below hb);have M2:=hid (M1.out.aL hb);clear hb H1 M1;have NB:=hid (aC.new w2 50 #[.int .u8 0,.string (aM []),.int .i64 0,.slice none 0 0,.int .i64 (s.place l)]);have gL:g < w2.heap.size:=H2.out.lt;have bY:some w2.heap.size ≠ nv.ownBlock:=fun e=>by have:=H2.out.jf _ e.symm;omega
  have oG:w.heap.size≤w2.heap.size:=M2.out.size;have H3:=hid (H2.out.alloc (.cells #[.int .u8 0,.string (aM []),.int .i64 0,.slice none 0 0,.int .i64 (s.place l)] 50));have M3:=hid (M2.out.dD (o:=.cells #[.int .u8 0,.string (aM []),.int .i64 0,.slice none 0 0,.int .i64 (s.place l)] 50));clear H2 M2;go_wp2_with fail;refine (iQ g tv l iv _ _ _ _ H3.out hl).mono ?_;rintro e w4⟨rfl,hb⟩;have H4:=hid (H3.out.below hb);have M4:=hid (M3.out.aL hb)
  replace NB:=hid (NB.out.below hb NB.out.lt)
  clear hb H3 M3;have hk5:=hk3;have c1:=H4.out.blk.cell 1;have f1:=H4.out.blk.frozen 1;have H5:=hid (H4.out.dR hk5);have M5:=hid (M4.out.kJ H4.out.vV)
  replace NB:=hid (H4.out.BG NB.out gL)
  clear H4 M4;go_wp2_with fail;clear c1 f1;go_wp2_with fail;refine (C n (aaJ _) g tv iv _ _ _ _ _ _ HR1.out (by omega) H5.out).mono ?_;rintro e w6⟨rfl,xs6,XB,h,m⟩;have H6:=hid h;have M6:=hid (M5.out.trans m);have bH:=m.ne NB.out.lt bY
  replace NB:=hid (m.blk NB.out (Nat.ne_of_gt gL) bY)
  clear bY;have bY:=bH;clear bH;clear h m H5 M5;go_wp2_with fail;refine (fu g tv l iv _ _ _ _ [41] (by simp) H6.out hl).mono ?_;rintro e w7⟨rfl,h,m⟩;have H7:=hid h;have M7:=hid (M6.out.kJ m);have bH:=m.ne NB.out.lt bY
  replace NB:=hid (m.blk NB.out (Nat.ne_of_gt gL) bY)
  clear bY;have bY:=bH;clear bH;clear h m H6 M6;go_wp2_with fail;go_ret;exact⟨rfl,_,_,H7.out,M7.out⟩
 rw [if_neg c2] at hr
 by_cases c3:s.next l=[91]
 ·rw [if_pos c3] at hr
  obtain⟨a,t1,r1,hr⟩:=aF hr;obtain⟨rfl,rfl⟩:=bn hr;have hb3:(t1.take l [93]).ns.length≤100000:=by simp only [RS.put,aaO,aaT] at hn;omega
  have hb1:=((To.refl (s:=t1)).take (l:=l) (x:=[93]) (by simp)).few;have hk3:=(dF (l:=l) (s:=s) (by rw [c3];simp)).2;have e0:(s.next l == [116,114,117,101])=false:=by simpa using c0
  have e1:(s.next l == [102,97,108,115,101])=false:=by simpa using c1
  have e2:(s.next l == [40])=false:=by simpa using c2
  have e3:(s.next l == [91])=true:=by rw [c3];rfl
  have HR1:=hid r1;clear hr r1 c0 c1 c2 c3;go_enter Tryz.func239,Tryz.ntmps239
  go_wp2_with fail;refine (aX g tv l iv _ _ _ _ H0.out hl).mono ?_;rintro e w1⟨rfl,hb⟩;have H1:=hid (H0.out.below hb);have M1:=hid (M0.out.aL hb);clear hb H0 M0;go_wp2_with fail;refine (bM g tv l iv _ _ _ _ H1.out hl).mono ?_;rintro e w2⟨rfl,hb⟩;have H2:=hid (H1.out.below hb);have M2:=hid (M1.out.aL hb);clear hb H1 M1;have NB:=hid (aC.new w2 50 #[.int .u8 0,.string (aM []),.int .i64 0,.slice none 0 0,.int .i64 (s.place l)]);have gL:g < w2.heap.size:=H2.out.lt;have bY:some w2.heap.size ≠ nv.ownBlock:=fun e=>by have:=H2.out.jf _ e.symm;omega
  have oG:w.heap.size≤w2.heap.size:=M2.out.size;have H3:=hid (H2.out.alloc (.cells #[.int .u8 0,.string (aM []),.int .i64 0,.slice none 0 0,.int .i64 (s.place l)] 50));have M3:=hid (M2.out.dD (o:=.cells #[.int .u8 0,.string (aM []),.int .i64 0,.slice none 0 0,.int .i64 (s.place l)] 50));clear H2 M2;go_wp2_with fail;refine (iQ g tv l iv _ _ _ _ H3.out hl).mono ?_;rintro e w4⟨rfl,hb⟩;have H4:=hid (H3.out.below hb);have M4:=hid (M3.out.aL hb)
  replace NB:=hid (NB.out.below hb NB.out.lt)
  clear hb H3 M3;have hk5:=hk3;have c1:=H4.out.blk.cell 1;have f1:=H4.out.blk.frozen 1;have H5:=hid (H4.out.dR hk5);have M5:=hid (M4.out.kJ H4.out.vV)
  replace NB:=hid (H4.out.BG NB.out gL)
  clear H4 M4;go_wp2_with fail;clear c1 f1;go_wp2_with fail;refine (D g tv iv _ _ _ _ _ _ HR1.out (by omega) H5.out).mono ?_;rintro e w6⟨AL,cL,xs6,XB,rfl,hL,h,m⟩;have L:=hid (hL.base M5.out.size);clear hL;have H6:=hid h;have M6:=hid (M5.out.trans m);have bH:=m.ne NB.out.lt bY
  replace NB:=hid (m.blk NB.out (Nat.ne_of_gt gL) bY)
  clear bY;have bY:=bH;clear bH;clear h m H5 M5;have z0:=NB.out.frozen 0;have z3:=NB.out.frozen 3;have b0:=NB.out.cell 0;have b3:=NB.out.cell 3;have H7:=hid (H6.out.mD NB.out gL bY 0 (.int .u8 26));have M7:=hid (M6.out.kL (i:=0) (u:=.int .u8 26) oG)
  replace L:=hid (L.out.zo NB.out 0 (.int .u8 26))
  replace NB:=hid (NB.out.upd 0 (.int .u8 26) (cs':=#[.int .u8 26,.string (aM []),.int .i64 0,.slice none 0 0,.int .i64 (s.place l)]) rfl)
  clear H6 M6;have H8:=hid (H7.out.mD NB.out gL bY 3 (.slice AL a.length cL));have M8:=hid (M7.out.kL (i:=3) (u:=.slice AL a.length cL) oG)
  replace L:=hid (L.out.zo NB.out 3 (.slice AL a.length cL))
  replace NB:=hid (NB.out.upd 3 (.slice AL a.length cL) (cs':=#[.int .u8 26,.string (aM []),.int .i64 0,.slice AL a.length cL,.int .i64 (s.place l)]) rfl)
  clear H7 M7;go_wp2_with fail;refine (fu g tv l iv _ _ _ _ [93] (by simp) H8.out hl).mono ?_;rintro e w9⟨rfl,h,m⟩;have H9:=hid h;have M9:=hid (M8.out.kJ m);have bH:=m.ne NB.out.lt bY
  replace NB:=hid (m.blk NB.out (Nat.ne_of_gt gL) bY)
  clear bY;have bY:=bH;clear bH
  replace L:=hid (L.out.mv H8.out m)
  clear h m H8 M8;clear b0 b3 z0 z3;have b0:=NB.out.cell 0;have b1:=NB.out.cell 1;have b2:=NB.out.cell 2;have b3:=NB.out.cell 3;have b4:=NB.out.cell 4;have LK:=hid L.out.row;have Vf:=L.out.lo;clear L;go_wp2_with fail;refine (dZ g tv l iv _ _ _ _ 26 _ [] 0 _ a H9.out LK.out (by omega)).mono ?_;rintro e Qv⟨rfl,nv10,h,m⟩;have Dt:=hid h;have Fz:=hid (M9.out.gX Dt.out m Vf);have bH:=m.ne NB.out.lt bY
  replace NB:=hid (m.blk NB.out (Nat.ne_of_gt gL) bY)
  clear bY;have bY:=bH;clear bH;clear h m H9 M9;clear b0 b1 b2 b3 b4;go_wp2_with fail;go_ret;exact⟨rfl,_,_,Dt.out,Fz.out⟩
 rw [if_neg c3] at hr
 have e0:(s.next l == [116,114,117,101])=false:=by simpa using c0
 have e1:(s.next l == [102,97,108,115,101])=false:=by simpa using c1
 have e2:(s.next l == [40])=false:=by simpa using c2
 have e3:(s.next l == [91])=false:=by simpa using c3
 have HR:=hid (show yM l n s=some (qs,s') from hr);clear hr c0 c1 c2 c3;go_enter Tryz.func239,Tryz.ntmps239
 go_wp2_with fail;refine (aX g tv l iv _ _ _ _ H0.out hl).mono ?_;rintro e w1⟨rfl,hb⟩;have H1:=hid (H0.out.below hb);have M1:=hid (M0.out.aL hb);clear hb H0 M0;go_wp2_with fail;refine (bM g tv l iv _ _ _ _ H1.out hl).mono ?_;rintro e w2⟨rfl,hb⟩;have H2:=hid (H1.out.below hb);have M2:=hid (M1.out.aL hb);clear hb H1 M1;have NB:=hid (aC.new w2 50 #[.int .u8 0,.string (aM []),.int .i64 0,.slice none 0 0,.int .i64 (s.place l)]);have gL:g < w2.heap.size:=H2.out.lt;have bY:some w2.heap.size ≠ nv.ownBlock:=fun e=>by have:=H2.out.jf _ e.symm;omega
 have oG:w.heap.size≤w2.heap.size:=M2.out.size;have H3:=hid (H2.out.alloc (.cells #[.int .u8 0,.string (aM []),.int .i64 0,.slice none 0 0,.int .i64 (s.place l)] 50));have M3:=hid (M2.out.dD (o:=.cells #[.int .u8 0,.string (aM []),.int .i64 0,.slice none 0 0,.int .i64 (s.place l)] 50));clear H2 M2;go_wp2_with fail;refine (iQ g tv l iv _ _ _ _ H3.out hl).mono ?_;rintro e w4⟨rfl,hb⟩;have H4:=hid (H3.out.below hb);have M4:=hid (M3.out.aL hb)
 replace NB:=hid (NB.out.below hb NB.out.lt)
 clear hb H3 M3;go_wp2_with fail;refine (q_named l hl n (fun m hm=>C m (by omega)) D g tv iv _ _ _ _ _ _ HR.out hn H4.out).mono ?_;rintro e w5⟨rfl,xs5,Fu,h,m⟩;have H5:=hid h;have M5:=hid (M4.out.trans m);have bH:=m.ne NB.out.lt bY
 replace NB:=hid (m.blk NB.out (Nat.ne_of_gt gL) bY)
 clear bY;have bY:=bH;clear bH;clear h m H4 M4;go_wp2_with fail;go_ret;exact⟨rfl,_,_,H5.out,M5.out⟩
structure NA (l:List Tok) (n:Nat):Prop where
 expr:QC 155 l n .expr
 or_:QC 192 l n (.lv .or)
 and_:QC 212 l n (.lv .and)
 not_:QC 223 l n (.lv .not)
 cmp:QC 234 l n (.lv .cmp)
 sum:QC 224 l n (.lv .sum)
 term:QC 225 l n (.lv .term)
 unary:QC 226 l n (.lv .unary)
 post:QC 235 l n .post
 atom:QC 239 l n .atom
 typ:QC 153 l n .typ
 list:QL 246 l n (.list .expr)
 param:QL 152 l n (.list .param)
theorem q_all (l:List Tok)(hl:l.length≤1000)(hT:∀ t ∈ l,t.text.length≤100000000):∀ n,NA l n:=by
 intro n
 induction n using Nat.strongRecOn with
 | _ n ih =>
  rcases n with _ | n
  ·have hc:∀ (F:Nat) (j:Job),QC F l 0 j:=fun F j g tv iv w s xs nv qs s' hr=>absurd hr (by simp [aK])
   have hq:∀ (F:Nat) (j:Job),QL F l 0 j:=fun F j g tv iv w s xs nv qs s' hr=>absurd hr (by simp [aK])
   exact⟨hc _ _,hc _ _,hc _ _,hc _ _,hc _ _,hc _ _,hc _ _,hc _ _,hc _ _,hc _ _,hc _ _,hq _ _,hq _ _⟩
  ·have a:=ih n (Nat.lt_succ_self n);have le:∀ m,m≤n→NA l m:=fun m hm=>ih m (Nat.lt_succ_of_le hm)
   exact⟨q_expr l hl n a.expr a.or_,q_or l hl n fun m hm=>(le m hm).and_,q_and l hl n fun m hm=>(le m hm).not_,q_not l hl n a.not_ a.cmp,q_cmp l hl n fun m hm=>(le m hm).sum,q_sum l hl n fun m hm=>(le m hm).term,q_term l hl n fun m hm=>(le m hm).unary,q_unary l hl n a.unary a.post,q_post l hl n a.atom fun m hm=>(le m hm).expr,q_atom l hl hT n (fun m hm=>(le m hm).expr) a.list,q_typ l hl hT n a.typ,q_exprs l hl n fun m hm=>(le m hm).expr,aa3 l hl hT (n+1) fun m hm=>(ih m hm).typ⟩
theorem EP (x:Bs):0≤j_ x∧j_ x≤9999:=by
 unfold j_;by_cases h:kind x=2
 ·rw [mY x h];obtain⟨h3,_,h4⟩:=vo _ h
  have:=yG _ h4 h3
  simp only
  omega
 ·rw [qH x h];simp
theorem O7 (g:Nat)(tv:Value)(l:List Tok)(iv:Value)(w:World)(s:RS)(xs:List NV)(nv:Value)(hT:∀ t ∈ l,t.text.length≤100000000)(h:QS g tv l iv w s xs nv)(hn:(rz l s).2.ns.length≤100000)(hl:l.length≤1000) :
  Calls Tryz.prog 151 #[.pointer (some ⟨g,0,none⟩)] w fun e w'=>e=.returned (.int .i64 (hd (rz l s).1))∧∃ xs' eO,QS g tv l iv w' (rz l s).2 xs' eO∧Mw g w xs nv w' xs' eO:=by
 have H0:=hid h;have M0:=hid (Mw.refl (g:=g) (w:=w) (xs:=xs) (nv:=nv));have hle:=h.le;clear h;by_cases c0:s.next l=[45]
 ·have HS:=hid (show rz l s=(s.dR.word l 2).2.put ⟨1,[],-j_ (s.dR.word l 2).1,[],s.place l⟩ from if_pos c0);rw [HS.out] at hn ⊢
  have hb3:(s.dR.word l 2).2.ns.length≤100000:=by simp only [RS.put,aaO,aaT] at hn;omega
  have hk3:=(dF (l:=l) (s:=s) (by rw [c0];simp)).2;have hbd:=EP (s.dR.word l 2).1;have e0:(s.next l == [45])=true:=by rw [c0];rfl
  clear c0 hn;go_in
  go_wp2_with fail;refine (bM g tv l iv _ _ _ _ H0.out hl).mono ?_;rintro e w1⟨rfl,hb⟩;have H1:=hid (H0.out.below hb);have M1:=hid (M0.out.aL hb);clear hb H0 M0;go_wp2_with fail;refine (aX g tv l iv _ _ _ _ H1.out hl).mono ?_;rintro e w2⟨rfl,hb⟩;have H2:=hid (H1.out.below hb);have M2:=hid (M1.out.aL hb);clear hb H1 M1;have hk3:=hk3;have c1:=H2.out.blk.cell 1;have f1:=H2.out.blk.frozen 1;have H3:=hid (H2.out.dR hk3);have M3:=hid (M2.out.kJ H2.out.vV);clear H2 M2;go_wp2_with fail;clear c1 f1;go_wp2_with fail;refine (oq g tv l iv _ _ _ _ hT H3.out hl).mono ?_;rintro e w4⟨rfl,h,m⟩;have H4:=hid h;have M4:=hid (M3.out.kJ m);clear h m H3 M3;obtain⟨N,hN⟩:∃ N,N=j_ (s.dR.word l 2).1:=⟨_,rfl⟩;rw [← hN] at hbd ⊢
  have HN:=hid hN;clear hN HS;have hw1:IntKind.i64.wrap (-1 * N)=-N:=by rw [show -1 * N=-N by omega];exact IntWalk.i64_in _ (by omega)
  go_wp2_with fail;refine (dZ g tv l iv _ _ _ _ 1 _ [] (-N) _ [] H4.out (cB.none_ _) (by omega)).mono ?_;rintro e w5⟨rfl,Fu,h,m⟩;have H5:=hid h;have M5:=hid (M4.out.gX H5.out m lW);clear h m H4 M4;go_wp2_with fail;go_ret;have h8:=H5.out;have h9:=M5.out;rw [HN.out] at h8 h9
  exact⟨rfl,_,_,h8,h9⟩
 ·have HS:=hid (show rz l s=(s.word l 2).2.put ⟨1,[],j_ (s.word l 2).1,[],s.place l⟩ from if_neg c0);rw [HS.out] at hn ⊢
  have hb3:(s.word l 2).2.ns.length≤100000:=by simp only [RS.put,aaO,aaT] at hn;omega
  have hbd:=EP (s.word l 2).1;have e0:(s.next l == [45])=false:=by simpa using c0
  clear c0 hn;go_in
  go_wp2_with fail;refine (bM g tv l iv _ _ _ _ H0.out hl).mono ?_;rintro e w1⟨rfl,hb⟩;have H1:=hid (H0.out.below hb);have M1:=hid (M0.out.aL hb);clear hb H0 M0;go_wp2_with fail;refine (aX g tv l iv _ _ _ _ H1.out hl).mono ?_;rintro e w2⟨rfl,hb⟩;have H2:=hid (H1.out.below hb);have M2:=hid (M1.out.aL hb);clear hb H1 M1;go_wp2_with fail;refine (oq g tv l iv _ _ _ _ hT H2.out hl).mono ?_;rintro e w3⟨rfl,h,m⟩;have H3:=hid h;have M3:=hid (M2.out.kJ m);clear h m H2 M2;obtain⟨N,hN⟩:∃ N,N=j_ (s.word l 2).1:=⟨_,rfl⟩;rw [← hN] at hbd ⊢
  have HN:=hid hN;clear hN HS;go_wp2_with fail;refine (dZ g tv l iv _ _ _ _ 1 _ [] N _ [] H3.out (cB.none_ _) (by omega)).mono ?_;rintro e w4⟨rfl,yH,h,m⟩;have H4:=hid h;have M4:=hid (M3.out.gX H4.out m lW);clear h m H3 M3;go_wp2_with fail;go_ret;have h8:=H4.out;have h9:=M4.out;rw [HN.out] at h8 h9
  exact⟨rfl,_,_,h8,h9⟩
theorem MS (l:List Tok)(hl:l.length≤1000)(hT:∀ t ∈ l,t.text.length≤100000000)(n:Nat)(Q:NA l n)(g:Nat)(tv iv:Value)(w:World)(s:RS)(xs:List NV)(nv:Value)(qs:List Int)(s':RS)(ck:s.kind l=3)(c0:s.next l=[114,101,116,114,97,99,116])(hr:d9 l n (s.place l) (s.dR.word l 1).1 .kW (s.dR.word l 1).2=some (qs,s'))(hn:s'.ns.length≤100000)(h:QS g tv l iv w s xs nv) :
  Calls Tryz.prog 101 #[.pointer (some ⟨g,0,none⟩)] w fun e w'=>e=.returned (.int .i64 (hd qs))∧∃ xs' eO,QS g tv l iv w' s' xs' eO∧Mw g w xs nv w' xs' eO:=by
 have H0:=hid h;have M0:=hid (Mw.refl (g:=g) (w:=w) (xs:=xs) (nv:=nv));have hle:=h.le;have hg0:=h.lt;clear h;unfold d9 at hr
 obtain⟨rfl,rfl⟩:=bn hr;have hb3:(s.dR.word l 1).2.ns.length≤100000:=by simp only [RS.put,aaO,aaT] at hn;omega
 clear hr;have hk3:=(dF (l:=l) (s:=s) (by rw [c0];simp)).2;have ek:(s.kind l == 3)=true:=by rw [ck];rfl
 have ek':((s.kind l:Int) == 3)=true:=by rw [ck];rfl
 have e0:(s.next l == [99,104,111,111,115,101])=false:=by rw [c0];rfl
 have e1:(s.next l == [116,121,112,101])=false:=by rw [c0];rfl
 have e2:(s.next l == [102,117,110])=false:=by rw [c0];rfl
 have e3:(s.next l == [108,101,116])=false:=by rw [c0];rfl
 have e4:(s.next l == [111,98,115,101,114,118,101])=false:=by rw [c0];rfl
 have e5:(s.next l == [114,101,116,114,97,99,116])=true:=by rw [c0];rfl
 have e6:(s.next l == [97,115,107])=false:=by rw [c0];rfl
 clear c0 ck;go_in
 go_wp2_with fail;refine (aX g tv l iv _ _ _ _ H0.out hl).mono ?_;rintro e w1⟨rfl,hb⟩;have H1:=hid (H0.out.below hb);have M1:=hid (M0.out.aL hb);clear hb H0 M0;go_wp2_with fail;refine (bM g tv l iv _ _ _ _ H1.out hl).mono ?_;rintro e w2⟨rfl,hb⟩;have H2:=hid (H1.out.below hb);have M2:=hid (M1.out.aL hb);clear hb H1 M1;go_wp2_with fail;refine (iQ g tv l iv _ _ _ _ H2.out hl).mono ?_;rintro e w3⟨rfl,hb⟩;have H3:=hid (H2.out.below hb);have M3:=hid (M2.out.aL hb);clear hb H2 M2;have hk4:=hk3;have c1:=H3.out.blk.cell 1;have f1:=H3.out.blk.frozen 1;have H4:=hid (H3.out.dR hk4);have M4:=hid (M3.out.kJ H3.out.vV);clear H3 M3;go_wp2_with fail;clear c1 f1;go_wp2_with fail;refine (iR g tv l iv _ _ _ _ 1 (by simp) (by simp) H4.out hl).mono ?_;rintro e w5⟨rfl,h,m⟩;have H5:=hid h;have M5:=hid (M4.out.kJ m);clear h m H4 M4;have NB:=hid (aC.new w5 50 #[.int .u8 45,.string (aM (s.dR.word l 1).1),.int .i64 0,.slice none 0 0,.int .i64 (s.place l)]);have gL:g < w5.heap.size:=H5.out.lt;have bY:some w5.heap.size ≠ nv.ownBlock:=fun e=>by have:=H5.out.jf _ e.symm;omega
 have oG:w.heap.size≤w5.heap.size:=M5.out.size;have H6:=hid (H5.out.alloc (.cells #[.int .u8 45,.string (aM (s.dR.word l 1).1),.int .i64 0,.slice none 0 0,.int .i64 (s.place l)] 50));have M6:=hid (M5.out.dD (o:=.cells #[.int .u8 45,.string (aM (s.dR.word l 1).1),.int .i64 0,.slice none 0 0,.int .i64 (s.place l)] 50));clear H5 M5;have b0:=NB.out.cell 0;have b1:=NB.out.cell 1;have b2:=NB.out.cell 2;have b3:=NB.out.cell 3;have b4:=NB.out.cell 4;go_wp2_with fail;refine (dZ g tv l iv _ _ _ _ 45 _ _ 0 _ [] H6.out (cB.none_ _) (by omega)).mono ?_;rintro e w7⟨rfl,nv7,h,m⟩;have H7:=hid h;have M7:=hid (M6.out.gX H7.out m lW);have bH:=m.ne NB.out.lt bY
 replace NB:=hid (m.blk NB.out (Nat.ne_of_gt gL) bY)
 clear bY;have bY:=bH;clear bH;clear h m H6 M6;clear b0 b1 b2 b3 b4;go_wp2_with fail;go_ret;exact⟨rfl,_,_,H7.out,M7.out⟩
theorem aa2 (l:List Tok)(hl:l.length≤1000)(hT:∀ t ∈ l,t.text.length≤100000000)(n:Nat)(Q:NA l n)(g:Nat)(tv iv:Value)(w:World)(s:RS)(xs:List NV)(nv:Value)(qs:List Int)(s':RS)(ck:s.kind l=3)(c0:s.next l=[108,101,116])(hr:d9 l n (s.place l) (s.dR.word l 1).1 .yB (s.dR.word l 1).2=some (qs,s'))(hn:s'.ns.length≤100000)(h:QS g tv l iv w s xs nv) :
  Calls Tryz.prog 101 #[.pointer (some ⟨g,0,none⟩)] w fun e w'=>e=.returned (.int .i64 (hd qs))∧∃ xs' eO,QS g tv l iv w' s' xs' eO∧Mw g w xs nv w' xs' eO:=by
 have H0:=hid h;have M0:=hid (Mw.refl (g:=g) (w:=w) (xs:=xs) (nv:=nv));have hle:=h.le;have hg0:=h.lt;clear h;unfold d9 at hr
 obtain⟨a,t1,r1,hr⟩:=aF hr;obtain⟨rfl,rfl⟩:=bn hr;have hb3:t1.ns.length≤100000:=by simp only [RS.put,aaO,aaT] at hn;omega
 have HR1:=hid r1;clear hr r1;have hk3:=(dF (l:=l) (s:=s) (by rw [c0];simp)).2;have ek:(s.kind l == 3)=true:=by rw [ck];rfl
 have ek':((s.kind l:Int) == 3)=true:=by rw [ck];rfl
 have e0:(s.next l == [99,104,111,111,115,101])=false:=by rw [c0];rfl
 have e1:(s.next l == [116,121,112,101])=false:=by rw [c0];rfl
 have e2:(s.next l == [102,117,110])=false:=by rw [c0];rfl
 have e3:(s.next l == [108,101,116])=true:=by rw [c0];rfl
 have e4:(s.next l == [111,98,115,101,114,118,101])=false:=by rw [c0];rfl
 have e5:(s.next l == [114,101,116,114,97,99,116])=false:=by rw [c0];rfl
 have e6:(s.next l == [97,115,107])=false:=by rw [c0];rfl
 clear c0 ck;go_in
 go_wp2_with fail;refine (aX g tv l iv _ _ _ _ H0.out hl).mono ?_;rintro e w1⟨rfl,hb⟩;have H1:=hid (H0.out.below hb);have M1:=hid (M0.out.aL hb);clear hb H0 M0;go_wp2_with fail;refine (bM g tv l iv _ _ _ _ H1.out hl).mono ?_;rintro e w2⟨rfl,hb⟩;have H2:=hid (H1.out.below hb);have M2:=hid (M1.out.aL hb);clear hb H1 M1;go_wp2_with fail;refine (iQ g tv l iv _ _ _ _ H2.out hl).mono ?_;rintro e w3⟨rfl,hb⟩;have H3:=hid (H2.out.below hb);have M3:=hid (M2.out.aL hb);clear hb H2 M2;have hk4:=hk3;have c1:=H3.out.blk.cell 1;have f1:=H3.out.blk.frozen 1;have H4:=hid (H3.out.dR hk4);have M4:=hid (M3.out.kJ H3.out.vV);clear H3 M3;go_wp2_with fail;clear c1 f1;go_wp2_with fail;refine (iR g tv l iv _ _ _ _ 1 (by simp) (by simp) H4.out hl).mono ?_;rintro e w5⟨rfl,h,m⟩;have H5:=hid h;have M5:=hid (M4.out.kJ m);clear h m H4 M4;have NB:=hid (aC.new w5 50 #[.int .u8 0,.string (aM (s.dR.word l 1).1),.int .i64 0,.slice none 0 0,.int .i64 (s.place l)]);have gL:g < w5.heap.size:=H5.out.lt;have bY:some w5.heap.size ≠ nv.ownBlock:=fun e=>by have:=H5.out.jf _ e.symm;omega
 have oG:w.heap.size≤w5.heap.size:=M5.out.size;have H6:=hid (H5.out.alloc (.cells #[.int .u8 0,.string (aM (s.dR.word l 1).1),.int .i64 0,.slice none 0 0,.int .i64 (s.place l)] 50));have M6:=hid (M5.out.dD (o:=.cells #[.int .u8 0,.string (aM (s.dR.word l 1).1),.int .i64 0,.slice none 0 0,.int .i64 (s.place l)] 50));clear H5 M5;go_wp2_with fail;refine (fu g tv l iv _ _ _ _ [61] (by simp) H6.out hl).mono ?_;rintro e w7⟨rfl,h,m⟩;have H7:=hid h;have M7:=hid (M6.out.kJ m);have bH:=m.ne NB.out.lt bY
 replace NB:=hid (m.blk NB.out (Nat.ne_of_gt gL) bY)
 clear bY;have bY:=bH;clear bH;clear h m H6 M6;go_wp2_with fail;refine (Q.expr g tv iv _ _ _ _ _ _ HR1.out hb3 H7.out).mono ?_;rintro e w8⟨rfl,xs8,V_,h,m⟩;have H8:=hid h;have M8:=hid (M7.out.trans m);have bH:=m.ne NB.out.lt bY
 replace NB:=hid (m.blk NB.out (Nat.ne_of_gt gL) bY)
 clear bY;have bY:=bH;clear bH;clear h m H7 M7;have n1:¬ w8.heap.size=w5.heap.size:=Nat.ne_of_gt NB.out.lt;have n2:¬ w5.heap.size=w8.heap.size:=Nat.ne_of_lt NB.out.lt;have hz:=NB.out.lt;have z0:=NB.out.frozen 0;have z3:=NB.out.frozen 3;have b0:=NB.out.cell 0;have b1:=NB.out.cell 1;have b2:=NB.out.cell 2;have b3:=NB.out.cell 3;have b4:=NB.out.cell 4;have H9:=hid (H8.out.mD NB.out gL bY 0 (.int .u8 43));have M9:=hid (M8.out.kL (i:=0) (u:=.int .u8 43) oG)
 replace NB:=hid (NB.out.upd 0 (.int .u8 43) (cs':=#[.int .u8 43,.string (aM (s.dR.word l 1).1),.int .i64 0,.slice none 0 0,.int .i64 (s.place l)]) rfl)
 clear H8 M8;have Dt:=hid (H9.out.mD NB.out gL bY 3 (.slice (some ⟨w8.heap.size,0,none⟩) 1 1));have Fz:=hid (M9.out.kL (i:=3) (u:=.slice (some ⟨w8.heap.size,0,none⟩) 1 1) oG)
 replace NB:=hid (NB.out.upd 3 (.slice (some ⟨w8.heap.size,0,none⟩) 1 1) (cs':=#[.int .u8 43,.string (aM (s.dR.word l 1).1),.int .i64 0,.slice (some ⟨w8.heap.size,0,none⟩) 1 1,.int .i64 (s.place l)]) rfl)
 clear H9 M9;have KA:=hid (Dt.out.Hz [hd a] w8.heap.size (by simp));have Y3:∀ b,(Value.slice (some ⟨w8.heap.size,0,none⟩) ([hd a]:List Int).length ([hd a]:List Int).length).ownBlock=some b→w.heap.size≤b:=mM (by have h9:=Fz.out.size;simpa using h9)
 replace NB:=hid (NB.out.alloc (.cells (intCells [hd a]).toArray 3))
 have lF:=hid (Dt.out.alloc (.cells (intCells [hd a]).toArray 3));have M11:=hid (Fz.out.dD (o:=(.cells (intCells [hd a]).toArray 3)));clear Dt Fz;go_wp2_with fail;refine (dZ g tv l iv _ _ _ _ 43 _ _ 0 _ [hd a] lF.out KA.out (by omega)).mono ?_;rintro e wQ⟨rfl,uL,h,m⟩;have mh:=hid h;have qU:=hid (M11.out.gX mh.out m Y3);have bH:=m.ne NB.out.lt bY
 replace NB:=hid (m.blk NB.out (Nat.ne_of_gt gL) bY)
 clear bY;have bY:=bH;clear bH
 replace KA:=hid (lF.out.l6 m KA.out)
 clear h m lF M11;clear b0 b1 b2 b3 b4 z0 z3;go_wp2_with fail;go_ret;exact⟨rfl,_,_,mh.out,qU.out⟩
theorem MR (l:List Tok)(hl:l.length≤1000)(hT:∀ t ∈ l,t.text.length≤100000000)(n:Nat)(Q:NA l n)(g:Nat)(tv iv:Value)(w:World)(s:RS)(xs:List NV)(nv:Value)(qs:List Int)(s':RS)(ck:s.kind l=3)(c0:s.next l=[111,98,115,101,114,118,101])(hr:d9 l n (s.place l) (s.dR.word l 1).1 .observe (s.dR.word l 1).2=some (qs,s'))(hn:s'.ns.length≤100000)(h:QS g tv l iv w s xs nv) :
  Calls Tryz.prog 101 #[.pointer (some ⟨g,0,none⟩)] w fun e w'=>e=.returned (.int .i64 (hd qs))∧∃ xs' eO,QS g tv l iv w' s' xs' eO∧Mw g w xs nv w' xs' eO:=by
 have H0:=hid h;have M0:=hid (Mw.refl (g:=g) (w:=w) (xs:=xs) (nv:=nv));have hle:=h.le;have hg0:=h.lt;clear h;unfold d9 at hr
 obtain⟨a,t1,r1,hr⟩:=aF hr;obtain⟨rfl,rfl⟩:=bn hr;have hb3:t1.ns.length≤100000:=by simp only [RS.put,aaO,aaT] at hn;omega
 have HR1:=hid r1;clear hr r1;have hk3:=(dF (l:=l) (s:=s) (by rw [c0];simp)).2;have ek:(s.kind l == 3)=true:=by rw [ck];rfl
 have ek':((s.kind l:Int) == 3)=true:=by rw [ck];rfl
 have e0:(s.next l == [99,104,111,111,115,101])=false:=by rw [c0];rfl
 have e1:(s.next l == [116,121,112,101])=false:=by rw [c0];rfl
 have e2:(s.next l == [102,117,110])=false:=by rw [c0];rfl
 have e3:(s.next l == [108,101,116])=false:=by rw [c0];rfl
 have e4:(s.next l == [111,98,115,101,114,118,101])=true:=by rw [c0];rfl
 have e5:(s.next l == [114,101,116,114,97,99,116])=false:=by rw [c0];rfl
 have e6:(s.next l == [97,115,107])=false:=by rw [c0];rfl
 clear c0 ck;go_in
 go_wp2_with fail;refine (aX g tv l iv _ _ _ _ H0.out hl).mono ?_;rintro e w1⟨rfl,hb⟩;have H1:=hid (H0.out.below hb);have M1:=hid (M0.out.aL hb);clear hb H0 M0;go_wp2_with fail;refine (bM g tv l iv _ _ _ _ H1.out hl).mono ?_;rintro e w2⟨rfl,hb⟩;have H2:=hid (H1.out.below hb);have M2:=hid (M1.out.aL hb);clear hb H1 M1;go_wp2_with fail;refine (iQ g tv l iv _ _ _ _ H2.out hl).mono ?_;rintro e w3⟨rfl,hb⟩;have H3:=hid (H2.out.below hb);have M3:=hid (M2.out.aL hb);clear hb H2 M2;have hk4:=hk3;have c1:=H3.out.blk.cell 1;have f1:=H3.out.blk.frozen 1;have H4:=hid (H3.out.dR hk4);have M4:=hid (M3.out.kJ H3.out.vV);clear H3 M3;go_wp2_with fail;clear c1 f1;go_wp2_with fail;refine (iR g tv l iv _ _ _ _ 1 (by simp) (by simp) H4.out hl).mono ?_;rintro e w5⟨rfl,h,m⟩;have H5:=hid h;have M5:=hid (M4.out.kJ m);clear h m H4 M4;have NB:=hid (aC.new w5 50 #[.int .u8 0,.string (aM (s.dR.word l 1).1),.int .i64 0,.slice none 0 0,.int .i64 (s.place l)]);have gL:g < w5.heap.size:=H5.out.lt;have bY:some w5.heap.size ≠ nv.ownBlock:=fun e=>by have:=H5.out.jf _ e.symm;omega
 have oG:w.heap.size≤w5.heap.size:=M5.out.size;have H6:=hid (H5.out.alloc (.cells #[.int .u8 0,.string (aM (s.dR.word l 1).1),.int .i64 0,.slice none 0 0,.int .i64 (s.place l)] 50));have M6:=hid (M5.out.dD (o:=.cells #[.int .u8 0,.string (aM (s.dR.word l 1).1),.int .i64 0,.slice none 0 0,.int .i64 (s.place l)] 50));clear H5 M5;go_wp2_with fail;refine (fu g tv l iv _ _ _ _ [58] (by simp) H6.out hl).mono ?_;rintro e w7⟨rfl,h,m⟩;have H7:=hid h;have M7:=hid (M6.out.kJ m);have bH:=m.ne NB.out.lt bY
 replace NB:=hid (m.blk NB.out (Nat.ne_of_gt gL) bY)
 clear bY;have bY:=bH;clear bH;clear h m H6 M6;go_wp2_with fail;refine (Q.expr g tv iv _ _ _ _ _ _ HR1.out hb3 H7.out).mono ?_;rintro e w8⟨rfl,xs8,V_,h,m⟩;have H8:=hid h;have M8:=hid (M7.out.trans m);have bH:=m.ne NB.out.lt bY
 replace NB:=hid (m.blk NB.out (Nat.ne_of_gt gL) bY)
 clear bY;have bY:=bH;clear bH;clear h m H7 M7;have n1:¬ w8.heap.size=w5.heap.size:=Nat.ne_of_gt NB.out.lt;have n2:¬ w5.heap.size=w8.heap.size:=Nat.ne_of_lt NB.out.lt;have hz:=NB.out.lt;have z0:=NB.out.frozen 0;have z3:=NB.out.frozen 3;have b0:=NB.out.cell 0;have b1:=NB.out.cell 1;have b2:=NB.out.cell 2;have b3:=NB.out.cell 3;have b4:=NB.out.cell 4;have H9:=hid (H8.out.mD NB.out gL bY 0 (.int .u8 44));have M9:=hid (M8.out.kL (i:=0) (u:=.int .u8 44) oG)
 replace NB:=hid (NB.out.upd 0 (.int .u8 44) (cs':=#[.int .u8 44,.string (aM (s.dR.word l 1).1),.int .i64 0,.slice none 0 0,.int .i64 (s.place l)]) rfl)
 clear H8 M8;have Dt:=hid (H9.out.mD NB.out gL bY 3 (.slice (some ⟨w8.heap.size,0,none⟩) 1 1));have Fz:=hid (M9.out.kL (i:=3) (u:=.slice (some ⟨w8.heap.size,0,none⟩) 1 1) oG)
 replace NB:=hid (NB.out.upd 3 (.slice (some ⟨w8.heap.size,0,none⟩) 1 1) (cs':=#[.int .u8 44,.string (aM (s.dR.word l 1).1),.int .i64 0,.slice (some ⟨w8.heap.size,0,none⟩) 1 1,.int .i64 (s.place l)]) rfl)
 clear H9 M9;have KA:=hid (Dt.out.Hz [hd a] w8.heap.size (by simp));have Y3:∀ b,(Value.slice (some ⟨w8.heap.size,0,none⟩) ([hd a]:List Int).length ([hd a]:List Int).length).ownBlock=some b→w.heap.size≤b:=mM (by have h9:=Fz.out.size;simpa using h9)
 replace NB:=hid (NB.out.alloc (.cells (intCells [hd a]).toArray 3))
 have lF:=hid (Dt.out.alloc (.cells (intCells [hd a]).toArray 3));have M11:=hid (Fz.out.dD (o:=(.cells (intCells [hd a]).toArray 3)));clear Dt Fz;go_wp2_with fail;refine (dZ g tv l iv _ _ _ _ 44 _ _ 0 _ [hd a] lF.out KA.out (by omega)).mono ?_;rintro e wQ⟨rfl,uL,h,m⟩;have mh:=hid h;have qU:=hid (M11.out.gX mh.out m Y3);have bH:=m.ne NB.out.lt bY
 replace NB:=hid (m.blk NB.out (Nat.ne_of_gt gL) bY)
 clear bY;have bY:=bH;clear bH
 replace KA:=hid (lF.out.l6 m KA.out)
 clear h m lF M11;clear b0 b1 b2 b3 b4 z0 z3;go_wp2_with fail;go_ret;exact⟨rfl,_,_,mh.out,qU.out⟩
theorem Wo (l:List Tok)(hl:l.length≤1000)(hT:∀ t ∈ l,t.text.length≤100000000)(n:Nat)(Q:NA l n)(g:Nat)(tv iv:Value)(w:World)(s:RS)(xs:List NV)(nv:Value)(qs:List Int)(s':RS)(ck:s.kind l=3)(c0:s.next l=[116,121,112,101])(hr:d9 l n (s.place l) (s.dR.word l 1).1 .record (s.dR.word l 1).2=some (qs,s'))(hn:s'.ns.length≤100000)(h:QS g tv l iv w s xs nv) :
  Calls Tryz.prog 101 #[.pointer (some ⟨g,0,none⟩)] w fun e w'=>e=.returned (.int .i64 (hd qs))∧∃ xs' eO,QS g tv l iv w' s' xs' eO∧Mw g w xs nv w' xs' eO:=by
 have H0:=hid h;have M0:=hid (Mw.refl (g:=g) (w:=w) (xs:=xs) (nv:=nv));have hle:=h.le;have hg0:=h.lt;clear h;unfold d9 at hr
 obtain⟨a,t1,r1,hr⟩:=aF hr;obtain⟨rfl,rfl⟩:=bn hr;have hb3:(t1.take l [125]).ns.length≤100000:=by simp only [RS.put,aaO,aaT] at hn;omega
 have hb1:=((To.refl (s:=t1)).take (l:=l) (x:=[125]) (by simp)).few;have HR1:=hid r1;clear hr r1;have hk3:=(dF (l:=l) (s:=s) (by rw [c0];simp)).2;have ek:(s.kind l == 3)=true:=by rw [ck];rfl
 have ek':((s.kind l:Int) == 3)=true:=by rw [ck];rfl
 have e0:(s.next l == [99,104,111,111,115,101])=false:=by rw [c0];rfl
 have e1:(s.next l == [116,121,112,101])=true:=by rw [c0];rfl
 have e2:(s.next l == [102,117,110])=false:=by rw [c0];rfl
 have e3:(s.next l == [108,101,116])=false:=by rw [c0];rfl
 have e4:(s.next l == [111,98,115,101,114,118,101])=false:=by rw [c0];rfl
 have e5:(s.next l == [114,101,116,114,97,99,116])=false:=by rw [c0];rfl
 have e6:(s.next l == [97,115,107])=false:=by rw [c0];rfl
 clear c0 ck;go_in
 go_wp2_with fail;refine (aX g tv l iv _ _ _ _ H0.out hl).mono ?_;rintro e w1⟨rfl,hb⟩;have H1:=hid (H0.out.below hb);have M1:=hid (M0.out.aL hb);clear hb H0 M0;go_wp2_with fail;refine (bM g tv l iv _ _ _ _ H1.out hl).mono ?_;rintro e w2⟨rfl,hb⟩;have H2:=hid (H1.out.below hb);have M2:=hid (M1.out.aL hb);clear hb H1 M1;go_wp2_with fail;refine (iQ g tv l iv _ _ _ _ H2.out hl).mono ?_;rintro e w3⟨rfl,hb⟩;have H3:=hid (H2.out.below hb);have M3:=hid (M2.out.aL hb);clear hb H2 M2;have hk4:=hk3;have c1:=H3.out.blk.cell 1;have f1:=H3.out.blk.frozen 1;have H4:=hid (H3.out.dR hk4);have M4:=hid (M3.out.kJ H3.out.vV);clear H3 M3;go_wp2_with fail;clear c1 f1;go_wp2_with fail;refine (iR g tv l iv _ _ _ _ 1 (by simp) (by simp) H4.out hl).mono ?_;rintro e w5⟨rfl,h,m⟩;have H5:=hid h;have M5:=hid (M4.out.kJ m);clear h m H4 M4;have NB:=hid (aC.new w5 50 #[.int .u8 41,.string (aM (s.dR.word l 1).1),.int .i64 0,.slice none 0 0,.int .i64 (s.place l)]);have gL:g < w5.heap.size:=H5.out.lt;have bY:some w5.heap.size ≠ nv.ownBlock:=fun e=>by have:=H5.out.jf _ e.symm;omega
 have oG:w.heap.size≤w5.heap.size:=M5.out.size;have H6:=hid (H5.out.alloc (.cells #[.int .u8 41,.string (aM (s.dR.word l 1).1),.int .i64 0,.slice none 0 0,.int .i64 (s.place l)] 50));have M6:=hid (M5.out.dD (o:=.cells #[.int .u8 41,.string (aM (s.dR.word l 1).1),.int .i64 0,.slice none 0 0,.int .i64 (s.place l)] 50));clear H5 M5;go_wp2_with fail;refine (fu g tv l iv _ _ _ _ [61] (by simp) H6.out hl).mono ?_;rintro e w7⟨rfl,h,m⟩;have H7:=hid h;have M7:=hid (M6.out.kJ m);have bH:=m.ne NB.out.lt bY
 replace NB:=hid (m.blk NB.out (Nat.ne_of_gt gL) bY)
 clear bY;have bY:=bH;clear bH;clear h m H6 M6;go_wp2_with fail;refine (fu g tv l iv _ _ _ _ [123] (by simp) H7.out hl).mono ?_;rintro e w8⟨rfl,h,m⟩;have H8:=hid h;have M8:=hid (M7.out.kJ m);have bH:=m.ne NB.out.lt bY
 replace NB:=hid (m.blk NB.out (Nat.ne_of_gt gL) bY)
 clear bY;have bY:=bH;clear bH;clear h m H7 M7;go_wp2_with fail;refine (Q.param g tv iv _ _ _ _ _ _ HR1.out (by omega) H8.out).mono ?_;rintro e w9⟨AL,cL,xs9,nv9,rfl,hL,h,m⟩;have L:=hid (hL.base M8.out.size);clear hL;have H9:=hid h;have M9:=hid (M8.out.trans m);have bH:=m.ne NB.out.lt bY
 replace NB:=hid (m.blk NB.out (Nat.ne_of_gt gL) bY)
 clear bY;have bY:=bH;clear bH;clear h m H8 M8;have z3:=NB.out.frozen 3;have b3:=NB.out.cell 3;have Dt:=hid (H9.out.mD NB.out gL bY 3 (.slice AL a.length cL));have Fz:=hid (M9.out.kL (i:=3) (u:=.slice AL a.length cL) oG)
 replace L:=hid (L.out.zo NB.out 3 (.slice AL a.length cL))
 replace NB:=hid (NB.out.upd 3 (.slice AL a.length cL) (cs':=#[.int .u8 41,.string (aM (s.dR.word l 1).1),.int .i64 0,.slice AL a.length cL,.int .i64 (s.place l)]) rfl)
 clear H9 M9;go_wp2_with fail;refine (fu g tv l iv _ _ _ _ [125] (by simp) Dt.out hl).mono ?_;rintro e Et⟨rfl,h,m⟩;have lF:=hid h;have M11:=hid (Fz.out.kJ m);have bH:=m.ne NB.out.lt bY
 replace NB:=hid (m.blk NB.out (Nat.ne_of_gt gL) bY)
 clear bY;have bY:=bH;clear bH
 replace L:=hid (L.out.mv Dt.out m)
 clear h m Dt Fz;clear b3 z3;have b0:=NB.out.cell 0;have b1:=NB.out.cell 1;have b2:=NB.out.cell 2;have b3:=NB.out.cell 3;have b4:=NB.out.cell 4;have LK:=hid L.out.row;have Vf:=L.out.lo;clear L;go_wp2_with fail;refine (dZ g tv l iv _ _ _ _ 41 _ _ 0 _ a lF.out LK.out (by omega)).mono ?_;rintro e wQ⟨rfl,uL,h,m⟩;have mh:=hid h;have qU:=hid (M11.out.gX mh.out m Vf);have bH:=m.ne NB.out.lt bY
 replace NB:=hid (m.blk NB.out (Nat.ne_of_gt gL) bY)
 clear bY;have bY:=bH;clear bH;clear h m lF M11;clear b0 b1 b2 b3 b4;go_wp2_with fail;go_ret;exact⟨rfl,_,_,mh.out,qU.out⟩
theorem O6 (l:List Tok)(hl:l.length≤1000)(hT:∀ t ∈ l,t.text.length≤100000000)(n:Nat)(Q:NA l n)(g:Nat)(tv iv:Value)(w:World)(s:RS)(xs:List NV)(nv:Value)(qs:List Int)(s':RS)(ck:s.kind l=3)(c0:s.next l=[99,104,111,111,115,101])(hr:d9 l n (s.place l) (s.dR.word l 1).1 .choose (s.dR.word l 1).2=some (qs,s'))(hn:s'.ns.length≤100000)(h:QS g tv l iv w s xs nv) :
  Calls Tryz.prog 101 #[.pointer (some ⟨g,0,none⟩)] w fun e w'=>e=.returned (.int .i64 (hd qs))∧∃ xs' eO,QS g tv l iv w' s' xs' eO∧Mw g w xs nv w' xs' eO:=by
 have H0:=hid h;have M0:=hid (Mw.refl (g:=g) (w:=w) (xs:=xs) (nv:=nv));have hle:=h.le;have hg0:=h.lt;clear h;unfold d9 at hr
 obtain⟨a,t1,r1,hr⟩:=aF hr;obtain⟨b,t2,r2,hr⟩:=aF hr;obtain⟨rfl,rfl⟩:=bn hr;have hb3:t2.ns.length≤100000:=by simp only [RS.put,aaO,aaT] at hn;omega
 obtain⟨rfl,rfl⟩:a=(rz l ((s.dR.word l 1).2.take l [58])).1∧t1=(rz l ((s.dR.word l 1).2.take l [58])).2:=by injection r1 with r1;rw [r1];exact⟨rfl,rfl⟩
 obtain⟨T1,hT1⟩:∃ T,T=(rz l ((s.dR.word l 1).2.take l [58])).2:=⟨_,rfl⟩;rw [← hT1] at r2
 obtain⟨rfl,rfl⟩:b=(rz l (T1.take l [46,46])).1∧t2=(rz l (T1.take l [46,46])).2:=by injection r2 with r2;rw [r2];exact⟨rfl,rfl⟩
 have hb2:=Nat.le_trans ((To.refl (s:=T1)).take (l:=l) (x:=[46,46]) (by simp)).few (UA (l:=l) (T1.take l [46,46])).few;have HT1:=hid hT1;clear hr r1 r2 hT1;have hk3:=(dF (l:=l) (s:=s) (by rw [c0];simp)).2;have ek:(s.kind l == 3)=true:=by rw [ck];rfl
 have ek':((s.kind l:Int) == 3)=true:=by rw [ck];rfl
 have e0:(s.next l == [99,104,111,111,115,101])=true:=by rw [c0];rfl
 have e1:(s.next l == [116,121,112,101])=false:=by rw [c0];rfl
 have e2:(s.next l == [102,117,110])=false:=by rw [c0];rfl
 have e3:(s.next l == [108,101,116])=false:=by rw [c0];rfl
 have e4:(s.next l == [111,98,115,101,114,118,101])=false:=by rw [c0];rfl
 have e5:(s.next l == [114,101,116,114,97,99,116])=false:=by rw [c0];rfl
 have e6:(s.next l == [97,115,107])=false:=by rw [c0];rfl
 clear c0 ck;go_in
 go_wp2_with fail;refine (aX g tv l iv _ _ _ _ H0.out hl).mono ?_;rintro e w1⟨rfl,hb⟩;have H1:=hid (H0.out.below hb);have M1:=hid (M0.out.aL hb);clear hb H0 M0;go_wp2_with fail;refine (bM g tv l iv _ _ _ _ H1.out hl).mono ?_;rintro e w2⟨rfl,hb⟩;have H2:=hid (H1.out.below hb);have M2:=hid (M1.out.aL hb);clear hb H1 M1;go_wp2_with fail;refine (iQ g tv l iv _ _ _ _ H2.out hl).mono ?_;rintro e w3⟨rfl,hb⟩;have H3:=hid (H2.out.below hb);have M3:=hid (M2.out.aL hb);clear hb H2 M2;have hk4:=hk3;have c1:=H3.out.blk.cell 1;have f1:=H3.out.blk.frozen 1;have H4:=hid (H3.out.dR hk4);have M4:=hid (M3.out.kJ H3.out.vV);clear H3 M3;go_wp2_with fail;clear c1 f1;go_wp2_with fail;refine (iR g tv l iv _ _ _ _ 1 (by simp) (by simp) H4.out hl).mono ?_;rintro e w5⟨rfl,h,m⟩;have H5:=hid h;have M5:=hid (M4.out.kJ m);clear h m H4 M4;have NB:=hid (aC.new w5 50 #[.int .u8 0,.string (aM (s.dR.word l 1).1),.int .i64 0,.slice none 0 0,.int .i64 (s.place l)]);have gL:g < w5.heap.size:=H5.out.lt;have bY:some w5.heap.size ≠ nv.ownBlock:=fun e=>by have:=H5.out.jf _ e.symm;omega
 have oG:w.heap.size≤w5.heap.size:=M5.out.size;have H6:=hid (H5.out.alloc (.cells #[.int .u8 0,.string (aM (s.dR.word l 1).1),.int .i64 0,.slice none 0 0,.int .i64 (s.place l)] 50));have M6:=hid (M5.out.dD (o:=.cells #[.int .u8 0,.string (aM (s.dR.word l 1).1),.int .i64 0,.slice none 0 0,.int .i64 (s.place l)] 50));clear H5 M5;go_wp2_with fail;refine (fu g tv l iv _ _ _ _ [58] (by simp) H6.out hl).mono ?_;rintro e w7⟨rfl,h,m⟩;have H7:=hid h;have M7:=hid (M6.out.kJ m);have bH:=m.ne NB.out.lt bY
 replace NB:=hid (m.blk NB.out (Nat.ne_of_gt gL) bY)
 clear bY;have bY:=bH;clear bH;clear h m H6 M6;go_wp2_with fail;refine (O7 g tv l iv _ ((s.dR.word l 1).2.take l [58]) _ _ hT H7.out (by rw [← HT1.out];omega) hl).mono ?_;rintro e w8⟨rfl,xs8,V_,h,m⟩;have H8:=hid h;have M8:=hid (M7.out.trans m);have bH:=m.ne NB.out.lt bY
 replace NB:=hid (m.blk NB.out (Nat.ne_of_gt gL) bY)
 clear bY;have bY:=bH;clear bH;clear h m H7 M7;rw [← HT1.out] at H8
 obtain⟨A1,hA1⟩:∃ A1,A1=hd (rz l ((s.dR.word l 1).2.take l [58])).1:=⟨_,rfl⟩;rw [← hA1];have HA1:=hid hA1;clear hA1;go_wp2_with fail;refine (fu g tv l iv _ _ _ _ [46,46] (by simp) H8.out hl).mono ?_;rintro e w9⟨rfl,h,m⟩;have H9:=hid h;have M9:=hid (M8.out.kJ m);have bH:=m.ne NB.out.lt bY
 replace NB:=hid (m.blk NB.out (Nat.ne_of_gt gL) bY)
 clear bY;have bY:=bH;clear bH;clear h m H8 M8;go_wp2_with fail;refine (O7 g tv l iv _ (T1.take l [46,46]) _ _ hT H9.out hb3 hl).mono ?_;rintro e Qv⟨rfl,xs10,nv10,h,m⟩;have Dt:=hid h;have Fz:=hid (M9.out.trans m);have bH:=m.ne NB.out.lt bY
 replace NB:=hid (m.blk NB.out (Nat.ne_of_gt gL) bY)
 clear bY;have bY:=bH;clear bH;clear h m H9 M9;obtain⟨A2,hA2⟩:∃ A2,A2=hd (rz l (T1.take l [46,46])).1:=⟨_,rfl⟩;rw [← hA2];have HA2:=hid hA2;clear hA2;have n1:¬ Qv.heap.size=w5.heap.size:=Nat.ne_of_gt NB.out.lt;have n2:¬ w5.heap.size=Qv.heap.size:=Nat.ne_of_lt NB.out.lt;have hz:=NB.out.lt;have z0:=NB.out.frozen 0;have z3:=NB.out.frozen 3;have b0:=NB.out.cell 0;have b1:=NB.out.cell 1;have b2:=NB.out.cell 2;have b3:=NB.out.cell 3;have b4:=NB.out.cell 4;have lF:=hid (Dt.out.mD NB.out gL bY 0 (.int .u8 40));have M11:=hid (Fz.out.kL (i:=0) (u:=.int .u8 40) oG)
 replace NB:=hid (NB.out.upd 0 (.int .u8 40) (cs':=#[.int .u8 40,.string (aM (s.dR.word l 1).1),.int .i64 0,.slice none 0 0,.int .i64 (s.place l)]) rfl)
 clear Dt Fz;have mh:=hid (lF.out.mD NB.out gL bY 3 (.slice (some ⟨Qv.heap.size,0,none⟩) 2 2));have qU:=hid (M11.out.kL (i:=3) (u:=.slice (some ⟨Qv.heap.size,0,none⟩) 2 2) oG)
 replace NB:=hid (NB.out.upd 3 (.slice (some ⟨Qv.heap.size,0,none⟩) 2 2) (cs':=#[.int .u8 40,.string (aM (s.dR.word l 1).1),.int .i64 0,.slice (some ⟨Qv.heap.size,0,none⟩) 2 2,.int .i64 (s.place l)]) rfl)
 clear lF M11;have KA:=hid (mh.out.Hz [A1,A2] Qv.heap.size (by simp));have Y3:∀ b,(Value.slice (some ⟨Qv.heap.size,0,none⟩) ([A1,A2]:List Int).length ([A1,A2]:List Int).length).ownBlock=some b→w.heap.size≤b:=mM (by have h9:=qU.out.size;simpa using h9)
 replace NB:=hid (NB.out.alloc (.cells (intCells [A1,A2]).toArray 3))
 have zx:=hid (mh.out.alloc (.cells (intCells [A1,A2]).toArray 3));have Gd:=hid (qU.out.dD (o:=(.cells (intCells [A1,A2]).toArray 3)));clear mh qU;go_wp2_with fail;refine (dZ g tv l iv _ _ _ _ 40 _ _ 0 _ [A1,A2] zx.out KA.out (by omega)).mono ?_;rintro e Tx⟨rfl,nv14,h,m⟩;have K4:=hid h;have Qp:=hid (Gd.out.gX K4.out m Y3);have bH:=m.ne NB.out.lt bY
 replace NB:=hid (m.blk NB.out (Nat.ne_of_gt gL) bY)
 clear bY;have bY:=bH;clear bH
 replace KA:=hid (zx.out.l6 m KA.out)
 clear h m zx Gd;clear b0 b1 b2 b3 b4 z0 z3;go_wp2_with fail;go_ret;have h8:=K4.out;have h9:=Qp.out;rw [HA1.out,HA2.out] at h8 h9
 exact⟨by first | rfl|(rw [HT1.out];rfl),_,_,by first | exact h8|(rw [HT1.out] at h8 ⊢;exact h8),by first | exact h9|(rw [HT1.out] at h9 ⊢;exact h9)⟩
end Go.Proofs.YthepmkjggfijoaaGreatDoor
