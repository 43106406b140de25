/-
  A part of the proof.
-/
import Derived.Test.YthepmkjggfijoaaGreatDoorSA
import Derived.Test.YthepmkjggfijoaaGreatDoorQ05
set_option linter.all false
set_option maxRecDepth 100000
set_option maxHeartbeats 2000000
open Go.Lib (hid)
namespace Go.Proofs.YthepmkjggfijoaaGreatDoor
open Go.RowKit Mist
attribute [local go_sem] aj aH aS aB ak
theorem IJ {l:List Tok}:∀ (n:Nat) (q:El) (acc:List Int) (s s':RS) (qs:List Int),aK l n (.eu q acc) s=some (qs,s')→qs.length+s.k≤acc.length+s'.k
 | 0,_,_,_,_,_,h=>by cases h
 | n+1,q,acc,s,s',qs,h=>by
  rw [aK] at h
  split at h
  ·obtain⟨a,t,r,h⟩:=aF h;have h1:=IJ n q _ _ _ _ h;have h2:=(bG _ _ _ _ _ r).k;have h3:s.dR.k=s.k+1:=rfl;rw [aaO,aaT] at h1
   omega
  ·obtain⟨rfl,rfl⟩:=dY h;omega
theorem Wy {l:List Tok}(n:Nat)(q:El)(s s':RS)(qs:List Int)(h:aK l n (.list q) s=some (qs,s')):qs.length≤s'.k+1:=by
 rcases n with _ | n
 ·cases h
 ·rw [aK] at h
  obtain⟨a,t,r,h⟩:=aF h;have h1:=IJ n q _ _ _ _ h;rw [aaT] at h1
  omega
theorem aa_ {l:List Tok}(s:RS):To l s (rup l s).2:=by
 unfold rup;split
 ·rename_i e
  split
  ·exact ((To.refl.dR e (by simp)).fail).word (c:=2) (by simp)
  ·exact (To.refl.dR e (by simp)).word (c:=2) (by simp)
 ·exact To.refl
theorem QS.failB {g:Nat}{tv:Value}{l:List Tok}{iv:Value}{w:World}{s:RS}{xs:List NV}{nv:Value}(_h:QS g tv l iv w s xs nv){b:Nat}{T:TypeId}{cs:Array Value}(hB:aC w b T cs)(hg:g < b):aC (w.setCell ⟨g,4,none⟩ (.bool true)) b T cs:=hB.far (p:=⟨g,4,none⟩) (Nat.ne_of_gt hg) _
theorem rup_a {l:List Tok}{s:RS}(h:s.next l=[117,112,116,111])(h0:s.dR.next l=[48]):rup l s=(j_ (s.dR.fail.word l 2).1,(s.dR.fail.word l 2).2):=by unfold rup;rw [if_pos h,if_pos h0]
theorem rup_b {l:List Tok}{s:RS}(h:s.next l=[117,112,116,111])(h0:¬ s.dR.next l=[48]):rup l s=(j_ (s.dR.word l 2).1,(s.dR.word l 2).2):=by unfold rup;rw [if_pos h,if_neg h0]
theorem rup_c {l:List Tok}{s:RS}(h:¬ s.next l=[117,112,116,111]):rup l s=(0,s):=by unfold rup;rw [if_neg h]
theorem aa1 (l:List Tok)(hl:l.length≤1000)(hT:∀ t ∈ l,t.text.length≤100000000)(n:Nat)(Q:NA l n)(g:Nat)(tv iv:Value)(w:World)(s:RS)(xs:List NV)(nv:Value)(qs:List Int)(s':RS)(ck:s.kind l=3)(c0:s.next l=[102,117,110])(hr:d9 l n (s.place l) (s.dR.word l 1).1 .zu (s.dR.word l 1).2=some (qs,s'))(hn:s'.ns.length≤100000)(h:QS g tv l iv w s xs nv) :
  Calls Tryz.prog 101 #[.pointer (some ⟨g,0,none⟩)] w fun e w'=>e=.returned (.int .i64 (hd qs))∧∃ xs' eO,QS g tv l iv w' s' xs' eO∧Mw g w xs nv w' xs' eO:=by
 have H0:=hid h;have M0:=hid (Mw.refl (g:=g) (w:=w) (xs:=xs) (nv:=nv));have hle:=h.le;have hg0:=h.lt;clear h;unfold d9 at hr
 dsimp only at hr
 obtain⟨j0,hj0,hy0,hy1,hy2⟩:=info_parts gN
 obtain⟨ps,t0,hP,hr⟩:∃ ps t0,((((s.dR.word l 1).2.take l [40]).next l=[41]∧ps=[]∧t0=((s.dR.word l 1).2.take l [40]))∨(¬ ((s.dR.word l 1).2.take l [40]).next l=[41]∧aK l n (.list .param) ((s.dR.word l 1).2.take l [40])=some (ps,t0)))∧iW l n (s.dR.word l 1).1 (s.place l) ps t0=some (qs,s'):=by
  split at hr
  ·rename_i h1;exact⟨_,_,.inl ⟨h1,rfl,rfl⟩,hr⟩
  ·rename_i h1;obtain⟨ps,t0,h2,h3⟩:=aF hr;exact⟨_,_,.inr ⟨h1,h2⟩,h3⟩
 unfold iW at hr
 obtain⟨t,t1,r1,hr⟩:=aF hr;obtain⟨b,t2,r2,hr⟩:=aF hr;obtain⟨rfl,rfl⟩:=bn hr;have hb2:t2.ns.length≤100000:=by simp only [RS.put,aaO,aaT] at hn;omega
 have hbu:(rup l t1).2.ns.length≤100000:=Nat.le_trans (((To.refl (s:=(rup l t1).2)).take (l:=l) (x:=[61]) (by simp)).trans (bG _ _ _ _ _ r2)).few hb2;have hb1:t1.ns.length≤100000:=Nat.le_trans (aa_ t1).few hbu;have hb0:t0.ns.length≤100000:=Nat.le_trans ((((To.refl (s:=t0)).take (l:=l) (x:=[41]) (by simp)).take (x:=[58]) (by simp)).trans (bG _ _ _ _ _ r1)).few hb1
 have hps:ps.length≤1001:=by
  rcases hP with ⟨_,rfl,_⟩ | ⟨_,h1⟩
  ·simp
  ·have h2:=Wy _ _ _ _ _ h1;have h3:=(((((To.refl (s:=s)).dR c0 (by simp)).word (c:=1) (by simp)).take (x:=[40]) (by simp)).trans (bG _ _ _ _ _ h1)).le hle;omega
 have HP:=hid hP;have HR1:=hid r1;have HR2:=hid r2;clear hr r1 r2 hP;have hk3:=(dF (l:=l) (s:=s) (by rw [c0];simp)).2;have ek:(s.kind l == 3)=true:=by rw [ck];rfl
 have ek':((s.kind l:Int) == 3)=true:=by rw [ck];rfl
 have e0:(s.next l == [99,104,111,111,115,101])=false:=by rw [c0];rfl
 have e1:(s.next l == [116,121,112,101])=false:=by rw [c0];rfl
 have e2:(s.next l == [102,117,110])=true:=by rw [c0];rfl
 have e3:(s.next l == [108,101,116])=false:=by rw [c0];rfl
 have e4:(s.next l == [111,98,115,101,114,118,101])=false:=by rw [c0];rfl
 have e5:(s.next l == [114,101,116,114,97,99,116])=false:=by rw [c0];rfl
 have e6:(s.next l == [97,115,107])=false:=by rw [c0];rfl
 clear c0 ck;go_in
 go_wp2_with fail;refine (aX g tv l iv _ _ _ _ H0.out hl).mono ?_;rintro e w1⟨rfl,hb⟩;have H1:=hid (H0.out.below hb);have M1:=hid (M0.out.aL hb);clear hb H0 M0;go_wp2_with fail;refine (bM g tv l iv _ _ _ _ H1.out hl).mono ?_;rintro e w2⟨rfl,hb⟩;have H2:=hid (H1.out.below hb);have M2:=hid (M1.out.aL hb);clear hb H1 M1;go_wp2_with fail;refine (iQ g tv l iv _ _ _ _ H2.out hl).mono ?_;rintro e w3⟨rfl,hb⟩;have H3:=hid (H2.out.below hb);have M3:=hid (M2.out.aL hb);clear hb H2 M2;have hk4:=hk3;have c1:=H3.out.blk.cell 1;have f1:=H3.out.blk.frozen 1;have H4:=hid (H3.out.dR hk4);have M4:=hid (M3.out.kJ H3.out.vV);clear H3 M3;go_wp2_with fail;clear c1 f1;go_wp2_with fail;refine (iR g tv l iv _ _ _ _ 1 (by simp) (by simp) H4.out hl).mono ?_;rintro e w5⟨rfl,h,m⟩;have H5:=hid h;have M5:=hid (M4.out.kJ m);clear h m H4 M4;have NB:=hid (aC.new w5 50 #[.int .u8 42,.string (aM (s.dR.word l 1).1),.int .i64 0,.slice none 0 0,.int .i64 (s.place l)]);have gL:g < w5.heap.size:=H5.out.lt;have bY:some w5.heap.size ≠ nv.ownBlock:=fun e=>by have:=H5.out.jf _ e.symm;omega
 have oG:w.heap.size≤w5.heap.size:=M5.out.size;have H6:=hid (H5.out.alloc (.cells #[.int .u8 42,.string (aM (s.dR.word l 1).1),.int .i64 0,.slice none 0 0,.int .i64 (s.place l)] 50));have M6:=hid (M5.out.dD (o:=.cells #[.int .u8 42,.string (aM (s.dR.word l 1).1),.int .i64 0,.slice none 0 0,.int .i64 (s.place l)] 50));clear H5 M5;go_wp2_with fail;refine (fu g tv l iv _ _ _ _ [40] (by simp) H6.out hl).mono ?_;rintro e w7⟨rfl,h,m⟩;have H7:=hid h;have M7:=hid (M6.out.kJ m);have bH:=m.ne NB.out.lt bY
 replace NB:=hid (m.blk NB.out (Nat.ne_of_gt gL) bY)
 clear bY;have bY:=bH;clear bH;clear h m H6 M6;have HL:=hid (LR.nil w _ xs:LR w w7 xs (.slice none 0 0) []);obtain⟨nb,hnb⟩:∃ nb,nb=w5.heap.size:=⟨_,rfl⟩;go_wp2_with fail;refine (aX g tv l iv _ _ _ _ H7.out hl).mono ?_;rintro e w8⟨rfl,hb⟩;have H8:=hid (H7.out.below hb);have M8:=hid (M7.out.aL hb)
 replace NB:=hid (NB.out.below hb NB.out.lt)
 replace HL:=hid (HL.out.below hb)
 clear hb H7 M7;rw [← hnb] at NB gL bY oG
 go_upto_if 79 with (fail)
 rw [← hnb];clear hnb;go_cut [] from 79 to 82 (fun wx=>∃ (A:Option Addr) (c:Nat) (x1:List NV) (n1:Value),some nb ≠ n1.ownBlock∧Hid (aC wx nb 50 #[.int .u8 42,.string (aM (s.dR.word l 1).1),.int .i64 (0),.slice A (ps.length) c,.int .i64 (s.place l)])∧Hid (LR w wx x1 (.slice A ps.length c) ps)∧Hid (QS g tv l iv wx t0 x1 n1)∧Hid (Mw g w xs nv wx x1 n1))
 case first =>
  rcases HP.out with ⟨h1,rfl,rfl⟩ | ⟨h1,r1⟩
  ·clear HP HR1 HR2;have k1:(((s.dR.word l 1).2.take l [40]).next l == [41])=true:=by rw [h1];rfl
   clear h1;rw [k1,Bool.not_true];go_wp2_with fail;go_meet
   exact⟨none,0,xs,nv,bY,NB,HL,H8,M8⟩
  ·have qm:=hid r1;clear HP HR1 HR2 r1;have k1:(((s.dR.word l 1).2.take l [40]).next l == [41])=false:=by simpa using h1
   clear h1 HL;rw [k1,Bool.not_false];go_wp2_with fail;refine (Q.param g tv iv _ _ _ _ _ _ qm.out hb0 H8.out).mono ?_;rintro e w9⟨AL,cL,xs9,nv9,rfl,hL,h,m⟩;have L:=hid (hL.base M8.out.size);clear hL;have H9:=hid h;have M9:=hid (M8.out.trans m);have bH:=m.ne NB.out.lt bY
   replace NB:=hid (m.blk NB.out (Nat.ne_of_gt gL) bY)
   clear bY;have bY:=bH;clear bH;clear h m H8 M8;have z3:=NB.out.frozen 3;have b3:=NB.out.cell 3;have Dt:=hid (H9.out.mD NB.out gL bY 3 (.slice AL ps.length cL));have Fz:=hid (M9.out.kL (i:=3) (u:=.slice AL ps.length cL) oG)
   replace L:=hid (L.out.zo NB.out 3 (.slice AL ps.length cL))
   replace NB:=hid (NB.out.upd 3 (.slice AL ps.length cL) (cs':=#[.int .u8 42,.string (aM (s.dR.word l 1).1),.int .i64 0,.slice AL ps.length cL,.int .i64 (s.place l)]) rfl)
   clear H9 M9;go_wp2_with fail;go_meet
   exact⟨AL,cL,_,_,bY,NB,L,Dt,Fz⟩
 case rest =>
  clear HL NB bY H8 M8 HP;obtain⟨A,c,xs1,gW,bY,NB,L,H0,M0⟩:=hcut;go_wp2_with fail;refine (fu g tv l iv _ _ _ _ [41] (by simp) H0.out hl).mono ?_;rintro e w61⟨rfl,h,m⟩;have JO:=hid h;have Xv:=hid (M0.out.kJ m);have bH:=m.ne NB.out.lt bY
  replace NB:=hid (m.blk NB.out (Nat.ne_of_gt gL) bY)
  clear bY;have bY:=bH;clear bH
  replace L:=hid (L.out.mv H0.out m)
  clear h m H0 M0;go_wp2_with fail;refine (fu g tv l iv _ _ _ _ [58] (by simp) JO.out hl).mono ?_;rintro e w62⟨rfl,h,m⟩;have XQ:=hid h;have M62:=hid (Xv.out.kJ m);have bH:=m.ne NB.out.lt bY
  replace NB:=hid (m.blk NB.out (Nat.ne_of_gt gL) bY)
  clear bY;have bY:=bH;clear bH
  replace L:=hid (L.out.mv JO.out m)
  clear h m JO Xv;have d3:=NB.out.cell 3;have dz:=NB.out.frozen 3;have hz2:=NB.out.lt;go_upto_region 38 with (fail)
  have HD:=hid XQ.out.drew;have LD:=hid (L.out.below (Below.drew (Below.refl _ _)));have ND:=hid NB.out.drew;have MD:=hid (M62.out.aL (Below.drew (Below.refl _ _)));clear L NB XQ M62
  go_region_law ((first
   | (guard_target =~ ((if Region.wanted _ _=true then _ else _:Prop));refine step_append_lies _ (by rfl) _ _ _ (by rfl) 0 3 j0 _ 1 8 Tryz.underlying24 hj0 hy0 hy1 hy2 rfl (by omega) _ (ps).length (intCells (ps)) (by first | rfl|(simp only [aaO,aaT];rfl)) (L5.out.alloc _).row ⟨w50.heap.size,0,none⟩ 1 1 [.int .i64 (hd t)] (by rfl) (by rfl) (cell_one_new _ _ _) (by simp [Value.oneCell']) (by omega) (by simp only [maxLen];omega) (by omega) (aaL _) _ rfl ?_;intro gg cap w6 hown6 vN xC z8;have N6:=hid ((L5.out.alloc (.cells #[.int .i64 (hd t)] 3)).blk (N5.out.alloc _) vN);have hms:=M5.out.size;have L6:=hid ((L5.out.alloc (.cells #[.int .i64 (hd t)] 3)).grow (H5.out.alloc _) hown6 xC (Nat.le_trans hms (by simp)));have H6:=hid ((H5.out.alloc _).grow (L5.out.alloc (.cells #[.int .i64 (hd t)] 3)) vN (fun b hb=>aaK (aaW hg0 (L5.out.lo b hb))));have M6:=hid (M5.out.dD.grow (L5.out.alloc (.cells #[.int .i64 (hd t)] 3)) vN);clear hown6 vN xC z8;have e6:=N6.out.cell 3;have f6:=N6.out.frozen 3;have Z5:=N6.out.lt)
   | (go_simp;go_at_call 153;go_loud (refine (Q.typ g tv iv _ _ _ _ _ _ HR1.out hb1 HD.out).mono ?_;rintro e w50⟨rfl,xs50,nv50,h,m⟩;have H5:=hid h;have M5:=hid (MD.out.trans m);have R5:=m.ne ND.out.lt bY;have N5:=hid (m.blk ND.out (Nat.ne_of_gt gL) bY);have L5:=hid (LD.out.mw HD.out m);clear h m;have e5:=N5.out.cell 3;have f5:=N5.out.frozen 3;have Z4:=N5.out.lt))))
  all_goals
   have NB:=hid (N6.out.upd 3 (.slice (some ⟨gg,0,none⟩) (ps.length+1) cap) (cs':=#[.int .u8 42,.string (aM (s.dR.word l 1).1),.int .i64 0,.slice (some ⟨gg,0,none⟩) (ps.length+1) cap,.int .i64 (s.place l)]) rfl);have H63:=hid (H6.out.mD N6.out gL R5 3 (.slice (some ⟨gg,0,none⟩) (ps.length+1) cap));have M63:=hid (M6.out.kL (i:=3) (u:=.slice (some ⟨gg,0,none⟩) (ps.length+1) cap) oG);have L:=hid (L6.out.zo N6.out 3 (.slice (some ⟨gg,0,none⟩) (ps.length+1) cap));clear bY;have bY:=R5;clear N6 H6 M6 L6 e6 f6 e5 f5 N5 L5 H5 M5 Z4 Z5 R5;go_wp2_with fail;refine (aX g tv l iv _ _ _ _ H63.out hl).mono ?_;rintro e w64⟨rfl,hb⟩;have H64:=hid (H63.out.below hb);have M64:=hid (M63.out.aL hb)
   replace NB:=hid (NB.out.below hb NB.out.lt)
   replace L:=hid (L.out.below hb)
   clear hb H63 M63;go_upto_if 96 with (fail)
   go_cut [] from 96 to 112 (fun wx=>∃ (A:Option Addr) (c:Nat) (x1:List NV) (n1:Value),some nb ≠ n1.ownBlock∧Hid (aC wx nb 50 #[.int .u8 42,.string (aM (s.dR.word l 1).1),.int .i64 ((rup l t1).1),.slice A (ps.length+1) c,.int .i64 (s.place l)])∧Hid (LR w wx x1 (.slice A (ps.length+1) c) (ps ++ [hd t]))∧Hid (QS g tv l iv wx (rup l t1).2 x1 n1)∧Hid (Mw g w xs nv wx x1 n1))
   case first =>
    clear HR1 HR2;by_cases h1:t1.next l=[117,112,116,111]
    ·have k1:(t1.next l == [117,112,116,111])=true:=by rw [h1];rfl
     have hk3:=(dF (l:=l) (s:=t1) (by rw [h1];simp)).2;have H1H:=hid h1;clear h1;rw [k1];have hk65:=hk3;have c1:=H64.out.blk.cell 1;have f1:=H64.out.blk.frozen 1;have H65:=hid (H64.out.dR hk65);have M65:=hid (M64.out.kJ H64.out.vV)
     replace NB:=hid (H64.out.BG NB.out gL)
     replace L:=hid (L.out.mv H64.out H64.out.vV)
     clear H64 M64;go_wp2_with fail;clear c1 f1;go_wp2_with fail;refine (aX g tv l iv _ _ _ _ H65.out hl).mono ?_;rintro e w66⟨rfl,hb⟩;have XR:=hid (H65.out.below hb);have M66:=hid (M65.out.aL hb)
     replace NB:=hid (NB.out.below hb NB.out.lt)
     replace L:=hid (L.out.below hb)
     clear hb H65 M65;by_cases h2:t1.dR.next l=[48]
     ·have k2:(t1.dR.next l == [48])=true:=by rw [h2];rfl
      have HUU:=hid (rup_a H1H.out h2);clear h2 k1 H1H;have c4:=XR.out.blk.cell 4;have f4:=XR.out.blk.frozen 4;have H67:=hid XR.out.fail;have M67:=hid (M66.out.kJ (XR.out.mv4 (.bool true)))
      replace NB:=hid (XR.out.failB NB.out gL)
      replace L:=hid (L.out.mv XR.out (XR.out.mv4 (.bool true)))
      clear XR M66;go_wp2_with fail;clear c4 f4;go_wp2_with fail;refine (oq g tv l iv _ _ _ _ hT H67.out hl).mono ?_;rintro e w68⟨rfl,h,m⟩;have H68:=hid h;have M68:=hid (M67.out.kJ m);have bH:=m.ne NB.out.lt bY
      replace NB:=hid (m.blk NB.out (Nat.ne_of_gt gL) bY)
      clear bY;have bY:=bH;clear bH
      replace L:=hid (L.out.mv H67.out m)
      clear h m H67 M67;have z2:=NB.out.frozen 2;have b2:=NB.out.cell 2;have H69:=hid (H68.out.mD NB.out gL bY 2 (.int .i64 (j_ (t1.dR.fail.word l 2).1)));have M69:=hid (M68.out.kL (i:=2) (u:=.int .i64 (j_ (t1.dR.fail.word l 2).1)) oG)
      replace L:=hid (L.out.zo NB.out 2 (.int .i64 (j_ (t1.dR.fail.word l 2).1)))
      replace NB:=hid (NB.out.upd 2 (.int .i64 (j_ (t1.dR.fail.word l 2).1)) (cs':=#[.int .u8 42,.string (aM (s.dR.word l 1).1),.int .i64 (j_ (t1.dR.fail.word l 2).1),.slice (some ⟨gg,0,none⟩) (ps.length+1) cap,.int .i64 (s.place l)]) rfl)
      clear H68 M68;go_wp2_with fail;go_meet
      rw [HUU.out];exact⟨_,_,_,_,bY,NB,L,H69,M69⟩
     ·have k2:(t1.dR.next l == [48])=false:=by simpa using h2
      have HUU:=hid (rup_b H1H.out h2);clear h2 k1 H1H;go_wp2_with fail;refine (oq g tv l iv _ _ _ _ hT XR.out hl).mono ?_;rintro e w67⟨rfl,h,m⟩;have H67:=hid h;have M67:=hid (M66.out.kJ m);have bH:=m.ne NB.out.lt bY
      replace NB:=hid (m.blk NB.out (Nat.ne_of_gt gL) bY)
      clear bY;have bY:=bH;clear bH
      replace L:=hid (L.out.mv XR.out m)
      clear h m XR M66;have z2:=NB.out.frozen 2;have b2:=NB.out.cell 2;have H68:=hid (H67.out.mD NB.out gL bY 2 (.int .i64 (j_ (t1.dR.word l 2).1)));have M68:=hid (M67.out.kL (i:=2) (u:=.int .i64 (j_ (t1.dR.word l 2).1)) oG)
      replace L:=hid (L.out.zo NB.out 2 (.int .i64 (j_ (t1.dR.word l 2).1)))
      replace NB:=hid (NB.out.upd 2 (.int .i64 (j_ (t1.dR.word l 2).1)) (cs':=#[.int .u8 42,.string (aM (s.dR.word l 1).1),.int .i64 (j_ (t1.dR.word l 2).1),.slice (some ⟨gg,0,none⟩) (ps.length+1) cap,.int .i64 (s.place l)]) rfl)
      clear H67 M67;go_wp2_with fail;go_meet
      rw [HUU.out];exact⟨_,_,_,_,bY,NB,L,H68,M68⟩
    ·have k1:(t1.next l == [117,112,116,111])=false:=by simpa using h1
     have HUU:=hid (rup_c h1);clear h1;rw [k1];go_wp2_with fail;go_meet
     rw [HUU.out];exact⟨_,_,_,_,bY,NB,L,H64,M64⟩
   case rest =>
    clear NB bY L H64 M64 HR1;obtain⟨A2,c2,xs2,Qu,bY,NB,L,H0,M0⟩:=hcut;obtain⟨U,hU⟩:∃ U,U=rup l t1:=⟨_,rfl⟩;have hR:=HR2.out;rw [← hU] at NB H0 hR hbu
    have HU:=hid hU;have HR:=hid hR;clear hU hR HR2;go_wp2_with fail;refine (fu g tv l iv _ _ _ _ [61] (by simp) H0.out hl).mono ?_;rintro e w61⟨rfl,h,m⟩;have JO:=hid h;have Xv:=hid (M0.out.kJ m);have bH:=m.ne NB.out.lt bY
    replace NB:=hid (m.blk NB.out (Nat.ne_of_gt gL) bY)
    clear bY;have bY:=bH;clear bH
    replace L:=hid (L.out.mv H0.out m)
    clear h m H0 M0;have hkl:(ps ++ [hd t]).length≤1002:=by rw [aaO,aaT];omega
    have d3:=NB.out.cell 3;have dz:=NB.out.frozen 3;have hz2:=NB.out.lt;go_upto_region 45 with (fail)
    have HD:=hid JO.out.drew;have LD:=hid (L.out.below (Below.drew (Below.refl _ _)));have ND:=hid NB.out.drew;have MD:=hid (Xv.out.aL (Below.drew (Below.refl _ _)));clear L NB JO Xv
    go_region_law ((first
     | (guard_target =~ ((if Region.wanted _ _=true then _ else _:Prop));refine step_append_lies _ (by rfl) _ _ _ (by rfl) 0 3 j0 _ 1 8 Tryz.underlying24 hj0 hy0 hy1 hy2 rfl (by omega) _ (ps ++ [hd t]).length (intCells (ps ++ [hd t])) (by first | rfl|(simp only [aaO,aaT];rfl)) (L5.out.alloc _).row ⟨w50.heap.size,0,none⟩ 1 1 [.int .i64 (hd b)] (by rfl) (by rfl) (cell_one_new _ _ _) (by simp [Value.oneCell']) (by omega) (by simp only [maxLen];omega) (by omega) (aaL _) _ rfl ?_;intro gg cap w6 hown6 vN xC z8;have N6:=hid ((L5.out.alloc (.cells #[.int .i64 (hd b)] 3)).blk (N5.out.alloc _) vN);have hms:=M5.out.size;have L6:=hid ((L5.out.alloc (.cells #[.int .i64 (hd b)] 3)).grow (H5.out.alloc _) hown6 xC (Nat.le_trans hms (by simp)));have H6:=hid ((H5.out.alloc _).grow (L5.out.alloc (.cells #[.int .i64 (hd b)] 3)) vN (fun b hb=>aaK (aaW hg0 (L5.out.lo b hb))));have M6:=hid (M5.out.dD.grow (L5.out.alloc (.cells #[.int .i64 (hd b)] 3)) vN);clear hown6 vN xC z8;have e6:=N6.out.cell 3;have f6:=N6.out.frozen 3;have Z5:=N6.out.lt)
     | (go_simp;go_at_call 155;go_loud (refine (Q.expr g tv iv _ _ _ _ _ _ HR.out hb2 HD.out).mono ?_;rintro e w50⟨rfl,xs50,nv50,h,m⟩;have H5:=hid h;have M5:=hid (MD.out.trans m);have R5:=m.ne ND.out.lt bY;have N5:=hid (m.blk ND.out (Nat.ne_of_gt gL) bY);have L5:=hid (LD.out.mw HD.out m);clear h m;have e5:=N5.out.cell 3;have f5:=N5.out.frozen 3;have Z4:=N5.out.lt))))
    all_goals
     have NB:=hid (N6.out.upd 3 (.slice (some ⟨gg,0,none⟩) (ps.length+1+1) cap) (cs':=#[.int .u8 42,.string (aM (s.dR.word l 1).1),.int .i64 U.1,.slice (some ⟨gg,0,none⟩) (ps.length+1+1) cap,.int .i64 (s.place l)]) rfl);have XQ:=hid (H6.out.mD N6.out gL R5 3 (.slice (some ⟨gg,0,none⟩) (ps.length+1+1) cap));have M62:=hid (M6.out.kL (i:=3) (u:=.slice (some ⟨gg,0,none⟩) (ps.length+1+1) cap) oG);have L:=hid (L6.out.zo N6.out 3 (.slice (some ⟨gg,0,none⟩) (ps.length+1+1) cap));clear bY;have bY:=R5;clear N6 H6 M6 L6 e6 f6 e5 f5 N5 L5 H5 M5 Z4 Z5 R5;have b0:=NB.out.cell 0;have b1:=NB.out.cell 1;have b2:=NB.out.cell 2;have b3:=NB.out.cell 3;have b4:=NB.out.cell 4;have LK:=hid (show cB _ (.slice (some ⟨gg,0,none⟩) (ps.length+1+1) cap) (ps ++ [hd t] ++ [hd b]) by have h9:=L.out.row;simpa only [aaO,aaT] using h9);have Vf:=L.out.lo;clear L;go_wp2_with fail;refine (dZ g tv l iv _ _ _ _ 42 _ _ _ _ (ps ++ [hd t] ++ [hd b]) XQ.out LK.out (by omega)).mono ?_;rintro e w63⟨rfl,nv63,h,m⟩;have H63:=hid h;have M63:=hid (M62.out.gX H63.out m Vf);have bH:=m.ne NB.out.lt bY
     replace NB:=hid (m.blk NB.out (Nat.ne_of_gt gL) bY)
     clear bY;have bY:=bH;clear bH;clear h m XQ M62;go_wp2_with fail;go_ret;have h8:=H63.out;have h9:=M63.out;rw [HU.out] at h8 h9
     exact⟨rfl,_,_,h8,h9⟩
def QW:List Bs:=[[],[109,117,115,116],[109,97,121],[99,111,117,110,116],[98,111,117,110,100,115],[118,97,108,117,101,115],[119,104,121],[98,108,97,109,101],[108,111,111,107]]
def Ve:Array Value:=(QW.map fun x=>Value.string (aM x)).toArray
theorem QCs_at {k:Nat}{x:Bs}(h:QW[k]? = some x):Ve[k]? = some (.string (aM x)):=by unfold Ve;simp [h]
def qn:Nat→Bs→Nat
 | 0,_=>0
 | k+1,x=>if k ≠ 0∧QW[k]? = some x then k else qn k x
theorem qn_t {k:Nat}{x:Bs}(h0:1≤k)(h:QW[k]? = some x):qn (k+1) x=k:=by rw [qn,if_pos ⟨by omega,h⟩]
theorem MU {k:Nat}{x y:Bs}(h:QW[k]? = some y)(hn:¬ x=y):qn (k+1) x=qn k x:=by rw [qn,if_neg];rintro⟨_,e⟩;rw [h] at e;exact hn (aaP e).symm
theorem qn_9 (x:Bs):qn 9 x=gy x:=by
 by_cases h1:x=[109,117,115,116]
 ·subst h1;rfl
 by_cases h2:x=[109,97,121]
 ·subst h2;rfl
 by_cases h3:x=[99,111,117,110,116]
 ·subst h3;rfl
 by_cases h4:x=[98,111,117,110,100,115]
 ·subst h4;rfl
 by_cases h5:x=[118,97,108,117,101,115]
 ·subst h5;rfl
 by_cases h6:x=[119,104,121]
 ·subst h6;rfl
 by_cases h7:x=[98,108,97,109,101]
 ·subst h7;rfl
 by_cases h8:x=[108,111,111,107]
 ·subst h8;rfl
 rw [MU (k:=8) rfl h8,MU (k:=7) rfl h7,MU (k:=6) rfl h6,MU (k:=5) rfl h5,MU (k:=4) rfl h4,MU (k:=3) rfl h3,MU (k:=2) rfl h2,MU (k:=1) rfl h1];unfold gy;rw [if_neg h1,if_neg h2,if_neg h3,if_neg h4,if_neg h5,if_neg h6,if_neg h7,if_neg h8,qn,if_neg (by simp)];rfl
theorem SG (x:Bs):gy x≤8:=by unfold gy;(repeat' split) <;> omega
theorem MZ (w:World):Calls Tryz.prog 190 #[] w fun e w'=>e=.returned (.slice (some ⟨w.heap.size,0,none⟩) 9 9)∧w'=w.alloc (.cells Ve 9):=by
 go_in
 go_wp2_with fail;go_ret;exact⟨rfl,rfl⟩
theorem q_ask (l:List Tok)(hl:l.length≤1000)(n:Nat)(C:∀ m,QC 155 l m .expr)(g:Nat)(tv iv:Value)(w:World)(s:RS)(xs:List NV)(nv:Value)(qs:List Int)(s':RS)(at_:Int)(hr:JF l n at_ s=some (qs,s'))(hn:s'.ns.length≤100000)(h:QS g tv l iv w s xs nv) :
  Calls Tryz.prog 149 #[.pointer (some ⟨g,0,none⟩),.int .i64 at_] w fun e w'=>e=.returned (.int .i64 (hd qs))∧∃ xs' eO,QS g tv l iv w' s' xs' eO∧Mw g w xs nv w' xs' eO:=by
 have H0:=hid h;have M0:=hid (Mw.refl (g:=g) (w:=w) (xs:=xs) (nv:=nv));have hle:=h.le;have hg0:=h.lt;clear h;obtain⟨j0,hj0,hy0,hy1,hy2⟩:=info_parts gN;have HRA:=hid hr;clear hr;go_in
 go_wp2_with fail;refine (MZ _).mono ?_;rintro e w1⟨rfl,rfl⟩;have QB:=hid (aC.new w 9 Ve);have GQB:g < w.heap.size:=H0.out.lt;have RQB:some w.heap.size ≠ nv.ownBlock:=fun e=>by have:=H0.out.jf _ e.symm;omega
 have H1:=hid (H0.out.alloc (.cells Ve 9));have M1:=hid (M0.out.dD (o:=.cells Ve 9));clear H0 M0;have NB:=hid (aC.new (w.alloc (.cells Ve 9)) 50 #[.int .u8 46,.string (aM []),.int .i64 (0),.slice none 0 0,.int .i64 at_]);have gL:g < (w.alloc (.cells Ve 9)).heap.size:=H1.out.lt;have bY:some (w.alloc (.cells Ve 9)).heap.size ≠ nv.ownBlock:=fun e=>by have:=H1.out.jf _ e.symm;omega
 have oG:w.heap.size≤(w.alloc (.cells Ve 9)).heap.size:=M1.out.size;have Nk:w.heap.size ≠ (w.alloc (.cells Ve 9)).heap.size:=Nat.ne_of_lt QB.out.lt;have XF:=Ne.symm Nk
 replace QB:=hid (QB.out.alloc (.cells #[.int .u8 46,.string (aM []),.int .i64 (0),.slice none 0 0,.int .i64 at_] 50))
 have H2:=hid (H1.out.alloc (.cells #[.int .u8 46,.string (aM []),.int .i64 (0),.slice none 0 0,.int .i64 at_] 50));have M2:=hid (M1.out.dD (o:=.cells #[.int .u8 46,.string (aM []),.int .i64 (0),.slice none 0 0,.int .i64 at_] 50));clear H1 M1;go_wp2_with fail;obtain⟨nb,hnb⟩:∃ nb,nb=(w.alloc (.cells Ve 9)).heap.size:=⟨_,rfl⟩;have hnb2:w.heap.size+1=nb:=by rw [hnb];simp
 rw [← hnb] at NB gL bY oG Nk XF
 rw [hnb2];clear hnb hnb2;obtain⟨qb,hqb⟩:∃ qb,qb=w.heap.size:=⟨_,rfl⟩;rw [← hqb] at QB GQB RQB Nk XF ⊢
 clear hqb;go_loopw [7] (fun i wr=>∃ k:Nat,1≤k∧k≤9∧i=.int .i64 k∧Hid (aC wr nb 50 #[.int .u8 46,.string (aM []),.int .i64 (qn k (s.next l)),.slice none 0 0,.int .i64 at_])∧Hid (aC wr qb 9 Ve)∧Hid (QS g tv l iv wr s xs nv)∧Hid (Mw g w xs nv wr xs nv)) (fun i _=>9 - (intOf i).toNat)
 case atStart=>exact⟨1,aaJ _,by omega,rfl,NB,QB,H2,M2⟩
 case round =>
  clear H2 M2 NB QB;obtain⟨wo,rfl⟩:∃ wo:World,wo=wr:=⟨_,rfl⟩;obtain⟨k,hk1,hk,rfl,NB,QB,H0,M0⟩:=hrel;by_cases hk9:k < 9
  ·have i3:decide ((k:Int) < 9)=true:=aaU (by omega);obtain⟨x,hx⟩:∃ x,QW[k]? = some x:=⟨_,aaD (show k < QW.length from hk9)⟩;have HQ:=hid (QCs_at hx);have HX:=hid hx;clear hx;go_upto_region 5 with (fail)
   have HD:=hid H0.out.drew;have ND:=hid NB.out.drew;have QD:=hid QB.out.drew;have MD:=hid (M0.out.aL (Below.drew (Below.refl _ _)));clear NB QB H0 M0;have q0:=(QD.out.cell k).trans HQ.out;have z0:(0:Int)≤(k:Int):=by omega
   have z1:(k:Int) < 9:=by omega
   rcases Bool.eq_false_or_eq_true (s.next l == x) with e1 | e1
   ·have HE:=hid (qn_t hk1 (HX.out.trans (congrArg some (eq_of_beq e1).symm)));go_region_law ((go_simp;go_at_call 146;go_loud (refine (aX g tv l iv _ _ _ _ HD.out hl).mono ?_;rintro e w50⟨rfl,hb⟩;have H5:=hid (HD.out.below hb);have M5:=hid (MD.out.aL hb);have N5:=hid (ND.out.below hb ND.out.lt);have Q5:=hid (QD.out.below hb QD.out.lt);clear hb;have q5:=(Q5.out.cell k).trans HQ.out)))
    all_goals
     have n2:=N5.out.cell 2;have f2:=N5.out.frozen 2;have N6:=hid (N5.out.upd 2 (.int .i64 (k:Int)) (cs':=#[.int .u8 46,.string (aM []),.int .i64 ((k:Int)),.slice none 0 0,.int .i64 at_]) rfl);have Q6:=hid (Q5.out.far (p:=⟨nb,2,none⟩) Nk (.int .i64 (k:Int)));have H6:=hid (H5.out.mD N5.out gL bY 2 (.int .i64 (k:Int)));have M6:=hid (M5.out.kL (i:=2) (u:=.int .i64 (k:Int)) oG);clear N5 Q5 H5 M5 HD ND QD MD;go_wp2_with fail;exact⟨⟨k+1,by omega,by omega,by go_num,by rw [HE.out];exact N6,Q6,H6,M6⟩,by simp only [intOf];omega⟩
   ·have HE:=hid (MU HX.out (by simpa using e1));go_region_law ((go_simp;go_at_call 146;go_loud (refine (aX g tv l iv _ _ _ _ HD.out hl).mono ?_;rintro e w50⟨rfl,hb⟩;have H5:=hid (HD.out.below hb);have M5:=hid (MD.out.aL hb);have N5:=hid (ND.out.below hb ND.out.lt);have Q5:=hid (QD.out.below hb QD.out.lt);clear hb;have q5:=(Q5.out.cell k).trans HQ.out)))
    all_goals
     clear HD ND QD MD;go_wp2_with fail;exact⟨⟨k+1,by omega,by omega,by go_num,by rw [HE.out];exact N5,Q5,H5,M5⟩,by simp only [intOf];omega⟩
  ·obtain rfl:k=9:=by omega
   have i3:decide (((9:Nat):Int) < 9)=false:=rfl;rw [qn_9] at NB
   have hr:=HRA.out;unfold JF at hr
   obtain⟨U,hU⟩:∃ U,U=gy (s.next l):=⟨_,rfl⟩;have hUt:¬ U=0→s.k < l.length:=fun h=>(dF (l:=l) (s:=s) (fun e=>h (by rw [hU,e];rfl))).2
   have hU8:U≤8:=hU ▸ SG _;rw [← hU] at NB hr
   clear hU HRA QB GQB RQB Nk XF hk1 hk hk9;have a2:=NB.out.cell 2;by_cases u0:U=0
   ·subst u0;rw [if_pos rfl] at hr
    obtain⟨rfl,rfl⟩:=dY hr;clear hr;have k0:(((0:Nat):Int) == 0)=true:=rfl;have c4:=H0.out.blk.cell 4;have f4:=H0.out.blk.frozen 4;have lF:=hid H0.out.fail;have M11:=hid (M0.out.kJ (H0.out.mv4 (.bool true)))
    replace NB:=hid (H0.out.failB NB.out gL)
    clear H0 M0;go_wp2_with fail;clear c4 f4;go_ret;exact⟨rfl,_,_,lF.out,M11.out⟩
   ·rw [if_neg u0] at hr
    have k0:((U:Int) == 0)=false:=by simp;omega
    have hk3:=hUt u0;clear hUt;have hk11:=hk3;have c1:=H0.out.blk.cell 1;have f1:=H0.out.blk.frozen 1;have lF:=hid (H0.out.dR hk11);have M11:=hid (M0.out.kJ H0.out.vV)
    replace NB:=hid (H0.out.BG NB.out gL)
    clear H0 M0;have b0:=NB.out.cell 0;have b1:=NB.out.cell 1;have b2:=NB.out.cell 2;have b3:=NB.out.cell 3;have b4:=NB.out.cell 4;by_cases u7:U=7
    ·subst u7;rw [if_pos rfl] at hr
     obtain⟨rfl,rfl⟩:=bn hr;clear hr;have k7:(((7:Nat):Int) == 7)=true:=rfl;have hb3:s.dR.ns.length≤100000:=by simp only [RS.put,aaO,aaT] at hn;omega
     go_wp2_with fail;refine (dZ g tv l iv _ _ _ _ 46 _ [] 7 _ [] lF.out (cB.none_ _) (by omega)).mono ?_;rintro e wQ⟨rfl,uL,h,m⟩;have mh:=hid h;have qU:=hid (M11.out.gX mh.out m lW);have bH:=m.ne NB.out.lt bY
     replace NB:=hid (m.blk NB.out (Nat.ne_of_gt gL) bY)
     clear bY;have bY:=bH;clear bH;clear h m lF M11;clear b0 b1 b2 b3 b4 a2 c1 f1;go_wp2_with fail;go_ret;exact⟨rfl,_,_,mh.out,qU.out⟩
    ·rw [if_neg u7] at hr
     have k7:((U:Int) == 7)=false:=by simp;omega
     obtain⟨ql,t0,a,t1,mm,HP,hs,r1⟩:∃ (ql:List Int) (t0:RS) (a:List Int) (t1:RS) (mm:Nat),Hid (if U=8 then ∃ r,aK l r (.eu .expr [hd a]) t1=some (ql,t0) else [hd a]=ql∧t1=t0)∧some (t0.put ⟨46,[],(U:Int),ql,at_⟩)=some (qs,s')∧aK l mm .expr s.dR=some (a,t1):=by
      by_cases u8:U=8
      ·subst u8;rw [if_pos rfl] at hr
       obtain⟨ql,t0,r0,Mj⟩:=aF hr;rcases n with _ | n
       ·exact absurd r0 (by simp [aK])
       rw [aK] at r0
       obtain⟨a,t1,r1,r0⟩:=aF r0;exact⟨ql,t0,a,t1,n,hid (by rw [if_pos rfl];exact⟨n,r0⟩),Mj,r1⟩
      ·rw [if_neg u8] at hr
       obtain⟨a,t1,r1,hr⟩:=aF hr;exact⟨[hd a],t1,a,t1,n,hid (by rw [if_neg u8];exact⟨rfl,rfl⟩),hr,r1⟩
     clear hr;obtain⟨rfl,rfl⟩:=bn hs;clear hs;have hb0:t0.ns.length≤100000:=by simp only [RS.put,aaO,aaT] at hn;omega
     have hb1:t1.ns.length≤100000:=by
      have h9:=HP.out;split at h9
      ·obtain⟨r,h9⟩:=h9;exact Nat.le_trans (bG _ _ _ _ _ h9).few hb0
      ·rw [h9.2];exact hb0
     have HR1:=hid r1;clear r1;go_wp2_with fail;clear c1 f1 a2 b0 b1 b2 b3 b4 u0 k0 k7;refine (C mm g tv iv _ _ _ _ _ _ HR1.out hb1 lF.out).mono ?_;rintro e wQ⟨rfl,Dr,uL,h,m⟩;have mh:=hid h;have qU:=hid (M11.out.trans m);have bH:=m.ne NB.out.lt bY
     replace NB:=hid (m.blk NB.out (Nat.ne_of_gt gL) bY)
     clear bY;have bY:=bH;clear bH;clear h m lF M11;have n1:¬ wQ.heap.size=nb:=Nat.ne_of_gt NB.out.lt;have n2:¬ nb=wQ.heap.size:=Nat.ne_of_lt NB.out.lt;have hz:=NB.out.lt;have z3:=NB.out.frozen 3;have b0:=NB.out.cell 0;have b1:=NB.out.cell 1;have b2:=NB.out.cell 2;have b3:=NB.out.cell 3;have b4:=NB.out.cell 4;have zx:=hid (mh.out.mD NB.out gL bY 3 (.slice (some ⟨wQ.heap.size,0,none⟩) 1 1));have Gd:=hid (qU.out.kL (i:=3) (u:=.slice (some ⟨wQ.heap.size,0,none⟩) 1 1) oG)
     replace NB:=hid (NB.out.upd 3 (.slice (some ⟨wQ.heap.size,0,none⟩) 1 1) (cs':=#[.int .u8 46,.string (aM []),.int .i64 (U),.slice (some ⟨wQ.heap.size,0,none⟩) 1 1,.int .i64 at_]) rfl)
     clear mh qU;have h9:=Gd.out.size;have L:=hid (LR.made (ks:=[hd a]) (n:=1) (c:=1) zx.out (k:=wQ.heap.size) (by simp) (by simpa using h9) (zx.out.Hz [hd a] wQ.heap.size (by simp)));clear h9
     replace NB:=hid (NB.out.alloc (.cells (intCells [hd a]).toArray 3))
     have HA:=hid (zx.out.alloc (.cells (intCells [hd a]).toArray 3));have MA:=hid (Gd.out.dD (o:=(.cells (intCells [hd a]).toArray 3)));clear zx Gd;go_wp2_with fail;clear b0 b1 b2 b3 b4 z3;go_loopw [] (fun wr=>∃ (acc:List Int) (A:Option Addr) (c:Nat) (s1:RS) (xs1:List NV) (gW:Value),acc.length≤s1.k+1∧some nb ≠ gW.ownBlock∧Hid (if U=8 then ∃ r,aK l r (.eu .expr acc) s1=some (ql,t0) else acc=ql∧s1=t0)∧Hid (aC wr nb 50 #[.int .u8 46,.string (aM []),.int .i64 (U),.slice A acc.length c,.int .i64 at_])∧Hid (LR w wr xs1 (.slice A acc.length c) acc)∧Hid (QS g tv l iv wr s1 xs1 gW)∧Hid (Mw g w xs nv wr xs1 gW)) (fun wr=>XA l g wr)
     case atStart=>exact⟨[hd a],_,_,t1,_,_,by simp,bY,HP,NB,L,HA,MA⟩
     case round =>
      clear HP NB L HA MA HR1 bY n1 n2 hz;obtain⟨wi,rfl⟩:∃ wi:World,wi=wr:=⟨_,rfl⟩;obtain⟨acc,A,c,s1,xs1,gW,hac,bY,HC,NB,L,H0,M0⟩:=hrel;have HW:=H0;have hle1:=H0.out.le;have b2:=NB.out.cell 2;have hc:=HC.out;clear HC;by_cases u8:U=8
      ·rw [if_pos u8] at hc
       have k8:((U:Int) == 8)=true:=by rw [u8];rfl
       obtain⟨r,hc⟩:=hc;rcases r with _ | r
       ·exact absurd hc (by simp [aK])
       rw [aK] at hc
       have HC:=hid hc;have HU8:=hid u8;clear hc u8;go_wp2_with fail;refine (aX g tv l iv _ _ _ _ H0.out hl).mono ?_;rintro e w61⟨rfl,hb⟩;have JO:=hid (H0.out.below hb);have Xv:=hid (M0.out.aL hb)
       replace NB:=hid (NB.out.below hb NB.out.lt)
       replace L:=hid (L.out.below hb)
       clear hb H0 M0;clear b2;by_cases c9:s1.next l=[44]
       ·have hc:=HC.out;rw [if_pos c9] at hc
        obtain⟨b,t2,r2,hc⟩:=aF hc;have HR:=hid hc;have HR2:=hid r2;have hb2:t2.ns.length≤100000:=Nat.le_trans (bG _ _ _ _ _ hc).few hb0;have hk2:s1.k+1≤t2.k:=(bG _ _ _ _ _ r2).k;have hk4:=(dF (l:=l) (s:=s1) (by rw [c9];simp)).2;have k9:(s1.next l == [44])=true:=by rw [c9];rfl
        clear hc r2 HC c9;have hk62:=hk4;have c1:=JO.out.blk.cell 1;have f1:=JO.out.blk.frozen 1;have XQ:=hid (JO.out.dR hk62);have M62:=hid (Xv.out.kJ JO.out.vV)
        replace NB:=hid (JO.out.BG NB.out gL)
        replace L:=hid (L.out.mv JO.out JO.out.vV)
        clear JO Xv;have d3:=NB.out.cell 3;have dz:=NB.out.frozen 3;have hz2:=NB.out.lt;go_upto_region 16 with (fail)
        have HD:=hid XQ.out.drew;have LD:=hid (L.out.below (Below.drew (Below.refl _ _)));have ND:=hid NB.out.drew;have MD:=hid (M62.out.aL (Below.drew (Below.refl _ _)));clear L NB XQ M62
        go_region_law ((first
         | (guard_target =~ ((if Region.wanted _ _=true then _ else _:Prop));refine step_append_lies _ (by rfl) _ _ _ (by rfl) 0 3 j0 _ 1 8 Tryz.underlying24 hj0 hy0 hy1 hy2 rfl (by omega) _ (acc).length (intCells (acc)) (by first | rfl|(simp only [aaO,aaT];rfl)) (L5.out.alloc _).row ⟨w50.heap.size,0,none⟩ 1 1 [.int .i64 (hd b)] (by rfl) (by rfl) (cell_one_new _ _ _) (by simp [Value.oneCell']) (by omega) (by simp only [maxLen];omega) (by omega) (aaL _) _ rfl ?_;intro gg cap w6 hown6 vN xC z8;have N6:=hid ((L5.out.alloc (.cells #[.int .i64 (hd b)] 3)).blk (N5.out.alloc _) vN);have hms:=M5.out.size;have L6:=hid ((L5.out.alloc (.cells #[.int .i64 (hd b)] 3)).grow (H5.out.alloc _) hown6 xC (Nat.le_trans hms (by simp)));have H6:=hid ((H5.out.alloc _).grow (L5.out.alloc (.cells #[.int .i64 (hd b)] 3)) vN (fun b hb=>aaK (aaW hg0 (L5.out.lo b hb))));have M6:=hid (M5.out.dD.grow (L5.out.alloc (.cells #[.int .i64 (hd b)] 3)) vN);clear hown6 vN xC z8;have e6:=N6.out.cell 3;have f6:=N6.out.frozen 3;have Z5:=N6.out.lt)
         | (go_simp;go_at_call 155;go_loud (refine (C r g tv iv _ _ _ _ _ _ HR2.out hb2 HD.out).mono ?_;rintro e w50⟨rfl,xs50,nv50,h,m⟩;have H5:=hid h;have M5:=hid (MD.out.trans m);have R5:=m.ne ND.out.lt bY;have N5:=hid (m.blk ND.out (Nat.ne_of_gt gL) bY);have L5:=hid (LD.out.mw HD.out m);clear h m;have e5:=N5.out.cell 3;have f5:=N5.out.frozen 3;have Z4:=N5.out.lt))))
        all_goals
         have NB:=hid (N6.out.upd 3 (.slice (some ⟨gg,0,none⟩) (acc.length+1) cap) (cs':=#[.int .u8 46,.string (aM []),.int .i64 (U),.slice (some ⟨gg,0,none⟩) (acc.length+1) cap,.int .i64 at_]) rfl);have H63:=hid (H6.out.mD N6.out gL R5 3 (.slice (some ⟨gg,0,none⟩) (acc.length+1) cap));have M63:=hid (M6.out.kL (i:=3) (u:=.slice (some ⟨gg,0,none⟩) (acc.length+1) cap) oG);have L:=hid (L6.out.zo N6.out 3 (.slice (some ⟨gg,0,none⟩) (acc.length+1) cap));clear bY;have bY:=R5;clear N6 H6 M6 L6 e6 f6 e5 f5 N5 L5 H5 M5 Z4 Z5 R5;clear c1 f1;go_wp2_with fail;exact⟨⟨acc ++ [hd b],some ⟨gg,0,none⟩,cap,t2,_,_,(by rw [aaO,aaT];omega),bY,hid (by rw [if_pos HU8.out];exact⟨r,HR.out⟩),by rw [aaO];exact NB,by rw [aaO];exact L,H63,M63⟩,by rw [iK H63.out,iK HW.out];omega⟩
       ·have hc:=HC.out;rw [if_neg c9] at hc
        obtain⟨rfl,rfl⟩:=dY hc;have k9:(t0.next l == [44])=false:=by simpa using c9
        clear hc HC c9;have b0:=NB.out.cell 0;have b1:=NB.out.cell 1;have b2:=NB.out.cell 2;have b3:=NB.out.cell 3;have b4:=NB.out.cell 4;have LK:=hid L.out.row;have Vf:=L.out.lo;clear L;go_wp2_with fail;refine (dZ g tv l iv _ _ _ _ 46 _ [] (U:Int) _ _ JO.out LK.out (by omega)).mono ?_;rintro e w62⟨rfl,nv62,h,m⟩;have XQ:=hid h;have M62:=hid (Xv.out.gX XQ.out m Vf);have bH:=m.ne NB.out.lt bY
        replace NB:=hid (m.blk NB.out (Nat.ne_of_gt gL) bY)
        clear bY;have bY:=bH;clear bH;clear h m JO Xv;clear b0 b1 b2 b3 b4;go_wp2_with fail;go_ret;exact⟨rfl,_,_,XQ.out,M62.out⟩
      ·rw [if_neg u8] at hc
       have k8:((U:Int) == 8)=false:=by simp;omega
       obtain⟨rfl,rfl⟩:=hc;clear b2 u8;have b0:=NB.out.cell 0;have b1:=NB.out.cell 1;have b2:=NB.out.cell 2;have b3:=NB.out.cell 3;have b4:=NB.out.cell 4;have LK:=hid L.out.row;have Vf:=L.out.lo;clear L;go_wp2_with fail;refine (dZ g tv l iv _ _ _ _ 46 _ [] (U:Int) _ _ H0.out LK.out (by omega)).mono ?_;rintro e w61⟨rfl,nv61,h,m⟩;have JO:=hid h;have Xv:=hid (M0.out.gX JO.out m Vf);have bH:=m.ne NB.out.lt bY
       replace NB:=hid (m.blk NB.out (Nat.ne_of_gt gL) bY)
       clear bY;have bY:=bH;clear bH;clear h m H0 M0;clear b0 b1 b2 b3 b4;go_wp2_with fail;go_ret;exact⟨rfl,_,_,JO.out,Xv.out⟩
def QI (l:List Tok)(n:Nat):Prop :=
 ∀ (g:Nat) (tv iv:Value) (w:World) (s:RS) (xs:List NV) (nv:Value) (qs:List Int) (s':RS),C9 l n s=some (qs,s')→s'.ns.length≤100000→QS g tv l iv w s xs nv →
  Calls Tryz.prog 101 #[.pointer (some ⟨g,0,none⟩)] w fun e w'=>e=.returned (.int .i64 (hd qs))∧∃ xs' eO,QS g tv l iv w' s' xs' eO∧Mw g w xs nv w' xs' eO
theorem q_it_no (l:List Tok)(hl:l.length≤1000)(g:Nat)(tv iv:Value)(w:World)(s:RS)(xs:List NV)(nv:Value)(ck:¬ s.kind l=3)(h:QS g tv l iv w s xs nv):Calls Tryz.prog 101 #[.pointer (some ⟨g,0,none⟩)] w fun e w'=>e=.returned (.int .i64 0)∧∃ xs' eO,QS g tv l iv w' s.fail xs' eO∧Mw g w xs nv w' xs' eO:=by
 have H0:=hid h;have M0:=hid (Mw.refl (g:=g) (w:=w) (xs:=xs) (nv:=nv));have hle:=h.le;have hg0:=h.lt;clear h;have ek:(s.kind l == 3)=false:=by simpa using ck
 have ek':((s.kind l:Int) == 3)=false:=by simp;omega
 clear ck;go_in
 go_wp2_with fail;refine (aX g tv l iv _ _ _ _ H0.out hl).mono ?_;rintro e w1⟨rfl,hb⟩;have H1:=hid (H0.out.below hb);have M1:=hid (M0.out.aL hb);clear hb H0 M0;go_wp2_with fail;refine (bM g tv l iv _ _ _ _ H1.out hl).mono ?_;rintro e w2⟨rfl,hb⟩;have H2:=hid (H1.out.below hb);have M2:=hid (M1.out.aL hb);clear hb H1 M1;go_wp2_with fail;refine (iQ g tv l iv _ _ _ _ H2.out hl).mono ?_;rintro e w3⟨rfl,hb⟩;have H3:=hid (H2.out.below hb);have M3:=hid (M2.out.aL hb);clear hb H2 M2;have c4:=H3.out.blk.cell 4;have f4:=H3.out.blk.frozen 4;have H4:=hid H3.out.fail;have M4:=hid (M3.out.kJ (H3.out.mv4 (.bool true)));clear H3 M3;go_wp2_with fail;clear c4 f4;go_ret;exact⟨rfl,_,_,H4.out,M4.out⟩
theorem SE (l:List Tok)(hl:l.length≤1000)(g:Nat)(tv iv:Value)(w:World)(s:RS)(xs:List NV)(nv:Value)(ck:s.kind l=3)(h0:¬ s.next l=[99,104,111,111,115,101])(h1:¬ s.next l=[116,121,112,101])(h2:¬ s.next l=[102,117,110])(h3:¬ s.next l=[108,101,116])(h4:¬ s.next l=[111,98,115,101,114,118,101])(h5:¬ s.next l=[114,101,116,114,97,99,116])(h6:¬ s.next l=[97,115,107])(h:QS g tv l iv w s xs nv):Calls Tryz.prog 101 #[.pointer (some ⟨g,0,none⟩)] w fun e w'=>e=.returned (.int .i64 0)∧∃ xs' eO,QS g tv l iv w' s.fail xs' eO∧Mw g w xs nv w' xs' eO:=by
 have H0:=hid h;have M0:=hid (Mw.refl (g:=g) (w:=w) (xs:=xs) (nv:=nv));have hle:=h.le;have hg0:=h.lt;clear h;have ek:(s.kind l == 3)=true:=by rw [ck];rfl
 have ek':((s.kind l:Int) == 3)=true:=by rw [ck];rfl
 have e0:(s.next l == [99,104,111,111,115,101])=false:=by simpa using h0
 have e1:(s.next l == [116,121,112,101])=false:=by simpa using h1
 have e2:(s.next l == [102,117,110])=false:=by simpa using h2
 have e3:(s.next l == [108,101,116])=false:=by simpa using h3
 have e4:(s.next l == [111,98,115,101,114,118,101])=false:=by simpa using h4
 have e5:(s.next l == [114,101,116,114,97,99,116])=false:=by simpa using h5
 have e6:(s.next l == [97,115,107])=false:=by simpa using h6
 clear ck h0 h1 h2 h3 h4 h5 h6;go_in
 go_wp2_with fail;refine (aX g tv l iv _ _ _ _ H0.out hl).mono ?_;rintro e w1⟨rfl,hb⟩;have H1:=hid (H0.out.below hb);have M1:=hid (M0.out.aL hb);clear hb H0 M0;go_wp2_with fail;refine (bM g tv l iv _ _ _ _ H1.out hl).mono ?_;rintro e w2⟨rfl,hb⟩;have H2:=hid (H1.out.below hb);have M2:=hid (M1.out.aL hb);clear hb H1 M1;go_wp2_with fail;refine (iQ g tv l iv _ _ _ _ H2.out hl).mono ?_;rintro e w3⟨rfl,hb⟩;have H3:=hid (H2.out.below hb);have M3:=hid (M2.out.aL hb);clear hb H2 M2;have c4:=H3.out.blk.cell 4;have f4:=H3.out.blk.frozen 4;have H4:=hid H3.out.fail;have M4:=hid (M3.out.kJ (H3.out.mv4 (.bool true)));clear H3 M3;go_wp2_with fail;clear c4 f4;go_ret;exact⟨rfl,_,_,H4.out,M4.out⟩
theorem aa0 (l:List Tok)(hl:l.length≤1000)(n:Nat)(C:∀ m,QC 155 l m .expr)(g:Nat)(tv iv:Value)(w:World)(s:RS)(xs:List NV)(nv:Value)(qs:List Int)(s':RS)(ck:s.kind l=3)(c0:s.next l=[97,115,107])(hr:JF l n (s.place l) s.dR=some (qs,s'))(hn:s'.ns.length≤100000)(h:QS g tv l iv w s xs nv) :
  Calls Tryz.prog 101 #[.pointer (some ⟨g,0,none⟩)] w fun e w'=>e=.returned (.int .i64 (hd qs))∧∃ xs' eO,QS g tv l iv w' s' xs' eO∧Mw g w xs nv w' xs' eO:=by
 have H0:=hid h;have M0:=hid (Mw.refl (g:=g) (w:=w) (xs:=xs) (nv:=nv));have hle:=h.le;have hg0:=h.lt;clear h;have hk3:=(dF (l:=l) (s:=s) (by rw [c0];simp)).2;have ek:(s.kind l == 3)=true:=by rw [ck];rfl
 have ek':((s.kind l:Int) == 3)=true:=by rw [ck];rfl
 have e0:(s.next l == [99,104,111,111,115,101])=false:=by rw [c0];rfl
 have e1:(s.next l == [116,121,112,101])=false:=by rw [c0];rfl
 have e2:(s.next l == [102,117,110])=false:=by rw [c0];rfl
 have e3:(s.next l == [108,101,116])=false:=by rw [c0];rfl
 have e4:(s.next l == [111,98,115,101,114,118,101])=false:=by rw [c0];rfl
 have e5:(s.next l == [114,101,116,114,97,99,116])=false:=by rw [c0];rfl
 have e6:(s.next l == [97,115,107])=true:=by rw [c0];rfl
 clear ck c0;have HR:=hid hr;clear hr;go_in
 go_wp2_with fail;refine (aX g tv l iv _ _ _ _ H0.out hl).mono ?_;rintro e w1⟨rfl,hb⟩;have H1:=hid (H0.out.below hb);have M1:=hid (M0.out.aL hb);clear hb H0 M0;go_wp2_with fail;refine (bM g tv l iv _ _ _ _ H1.out hl).mono ?_;rintro e w2⟨rfl,hb⟩;have H2:=hid (H1.out.below hb);have M2:=hid (M1.out.aL hb);clear hb H1 M1;go_wp2_with fail;refine (iQ g tv l iv _ _ _ _ H2.out hl).mono ?_;rintro e w3⟨rfl,hb⟩;have H3:=hid (H2.out.below hb);have M3:=hid (M2.out.aL hb);clear hb H2 M2;have hk4:=hk3;have c1:=H3.out.blk.cell 1;have f1:=H3.out.blk.frozen 1;have H4:=hid (H3.out.dR hk4);have M4:=hid (M3.out.kJ H3.out.vV);clear H3 M3;go_wp2_with fail;clear c1 f1;go_wp2_with fail;refine (q_ask l hl n C g tv iv _ _ _ _ _ _ _ HR.out hn H4.out).mono ?_;rintro e w5⟨rfl,xs5,Fu,h,m⟩;have H5:=hid h;have M5:=hid (M4.out.trans m);clear h m H4 M4;go_wp2_with fail;go_ret;exact⟨rfl,_,_,H5.out,M5.out⟩
theorem q_item (l:List Tok)(hl:l.length≤1000)(hT:∀ t ∈ l,t.text.length≤100000000)(n:Nat):QI l n:=by
 intro g tv iv w s xs nv qs s' hr hn h;have Q:=q_all l hl hT n;unfold C9 at hr
 by_cases ck:s.kind l=3
 ·rw [if_pos ck] at hr
  by_cases h0:s.next l=[99,104,111,111,115,101]
  ·exact O6 l hl hT n Q g tv iv w s xs nv qs s' ck h0 (by rw [h0] at hr;exact hr) hn h
  by_cases h1:s.next l=[116,121,112,101]
  ·exact Wo l hl hT n Q g tv iv w s xs nv qs s' ck h1 (by rw [h1] at hr;exact hr) hn h
  by_cases h2:s.next l=[102,117,110]
  ·exact aa1 l hl hT n Q g tv iv w s xs nv qs s' ck h2 (by rw [h2] at hr;exact hr) hn h
  by_cases h3:s.next l=[108,101,116]
  ·exact aa2 l hl hT n Q g tv iv w s xs nv qs s' ck h3 (by rw [h3] at hr;exact hr) hn h
  by_cases h4:s.next l=[111,98,115,101,114,118,101]
  ·exact MR l hl hT n Q g tv iv w s xs nv qs s' ck h4 (by rw [h4] at hr;exact hr) hn h
  by_cases h5:s.next l=[114,101,116,114,97,99,116]
  ·exact MS l hl hT n Q g tv iv w s xs nv qs s' ck h5 (by rw [h5] at hr;exact hr) hn h
  by_cases h6:s.next l=[97,115,107]
  ·exact aa0 l hl n (fun m=>(q_all l hl hT m).expr) g tv iv w s xs nv qs s' ck h6 (by rw [h6] at hr;exact hr) hn h
  rw [show Hr (s.next l)=none by unfold Hr;rw [if_neg h0,if_neg h1,if_neg h2,if_neg h3,if_neg h4,if_neg h5,if_neg h6]] at hr
  obtain⟨rfl,rfl⟩:=dY hr;exact SE l hl g tv iv w s xs nv ck h0 h1 h2 h3 h4 h5 h6 h
 ·rw [if_neg ck] at hr
  obtain⟨rfl,rfl⟩:=dY hr;exact q_it_no l hl g tv iv w s xs nv ck h
end Go.Proofs.YthepmkjggfijoaaGreatDoor
