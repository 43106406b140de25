/-
  A part of the proof.
-/
import Derived.Test.YthepmkjggfijoaaGreatDoorSA
import Derived.BigQuiet
import Derived.Test.YthepmkjggfijoaaGreatDoorS22
import Derived.Test.YthepmkjggfijoaaGreatDoorS32
import Derived.Test.YthepmkjggfijoaaGreatDoorJ08
set_option linter.all false
set_option maxRecDepth 100000
set_option maxHeartbeats 4000000
open Go.Lib (hid)
namespace Go.Proofs.YthepmkjggfijoaaGreatDoor
open Go.RowKit Mist
attribute [local go_sem] aj aH aS aB ak
theorem pi_ask {wild:Bool}{g:Nat}{iv:Value}{w0 w:World}{s:abd}{xs:List NV}{nv lv:Value}{its:List Int}(H:Hid (abH g wild iv w s xs nv lv))(LI:Hid (abK w0 w xs iv its))(hw:w0.heap.size≤w.heap.size)(hg:g < w0.heap.size)(hil:its.length≤1000)(hn:s.ns.length≤100000)(hb:s.nx % 7=6) :
  Calls Tryz.prog 72 #[.pointer (some ⟨g,0,none⟩)] w (ItemPost g wild w0 w its (itemG wild s)):=by
 obtain⟨Ai,ci,hiv⟩:=dh LI.out.row;subst hiv;obtain⟨j0,hj0,hy0,hy1,hy2⟩:=info_parts gN;have Ql:=hid fun (row:Option Nat) (w':World) (m:Mv g nv.ownBlock w row w')=>H.out.low m
 have M:=hid (abJ.refl (g:=g) (w:=w) (xs:=xs) (nv:=nv));have HLT:=hid (cB.lt LI.out.row);have hm7:Int.tmod (s.nx:Int) 7=6:=by rw [Int.tmod_eq_emod_of_nonneg (by omega)];omega
 have HB:=hid (show itemG0 wild s=askG wild (1+s.tl.tl.nx % 8) s.tl.tl.tl by unfold itemG0;simp only;rw [if_neg (by omega),if_neg (by omega),if_neg (by omega),if_neg (by omega),if_neg (by omega),if_neg (by omega)]);have hb6:=hb;go_in
 go_wp2_with fail;refine (nxH H M).mono ?_;clear H M;rintro e w1⟨lv1,rfl,q1,H,M,R⟩
 replace LI:=kp R LI
 clear R;go_wp2_with fail;refine (nxH H M).mono ?_;clear H M;rintro e w2⟨lv2,rfl,q2,H,M,R⟩
 replace LI:=kp R LI
 clear R;go_wp2_with fail;refine (wdH (s.tl.nx) _).mono ?_;rintro e w3⟨x,rfl,Hx,lx,rfl⟩;clear hb;obtain⟨q,hq⟩:∃ m,m=(s.tl.tl).nx % 8:=⟨_,rfl⟩;have zq:Int.tmod ((s.tl.tl).nx:Int) 8=(q:Int):=by rw [Int.tmod_eq_emod_of_nonneg (by omega),hq];omega
 have acu:=hid hq.symm;have acy:q≤7:=by omega
 clear hq;have yq:IntKind.i64.wrap (1+(q:Int))=((1+q:Nat):Int):=by rw [IntWalk.i64_in _ (by omega)];omega
 have HTR:=hid (show trailG s=if 1+q=7 then [32] else [] from by
  unfold trailG;rw [acu.out];by_cases h6:q=6
  ·rw [if_pos ⟨hb6,h6⟩,if_pos (by omega)]
  ·rw [if_neg (fun h=>h6 h.2),if_neg (by omega)])
 rw [acu.out] at HB
 go_wp2_with fail;refine (nxH H M).mono ?_;clear H M;rintro e w4⟨lv4,rfl,q4,H,M,R⟩
 replace LI:=kp R LI
 clear R;go_wp2_with fail;refine (akH H M (q:=1+q) (by omega) (by omega) (by omega)).mono ?_;clear H M;rintro e w5⟨a5,Y,xs5,Fu,lv5,rfl,jX,HY,abT,H,M,R⟩
 replace LI:=kp R LI
 clear R
 have HIX:aN a5.pc ++ trailG s=Y:=by
  rw [HTR.out,HY.out]
 have HIY:=hid HIX;clear HIX;obtain⟨id,qP⟩:∃ id,Hid (a5.ix=id):=⟨_,hid rfl⟩;rw [qP.out];have hrow:=(LI.out.alloc (.cells #[.int .i64 id] 3)).row;have HRW:=hid hrow;have cI:=H.out.blk.cell 2;clear hrow;go_wp2_with (at_builtin;go_loud (refine wpList_append_lies _ rfl (.tmp 234) (.tmp 236) 24 rfl 0 3 j0 (.int .i64 0) 1 8 Tryz.underlying24 hj0 hy0 hy1 hy2 rfl (by decide) _ its.length (intCells its) rfl HRW.out ⟨w5.heap.size,0,none⟩ 1 1 [.int .i64 id] rfl rfl (cell_one_new _ _ _) (by intro u hu;simp at hu;subst hu;rfl) (by omega) (by simp only [maxLen];omega) (by omega) (aaL _) _ rfl ?_);intro gg cap Tx hown hgrow hat hlt;obtain⟨HK,H9,acv,B9⟩:=itB H M rfl Ql LI hw hg hown hgrow hat;have c14:=HK.cell 2;have f14:=HK.frozen 2;clear hown hgrow hat HK)
 refine (plGap_any g wild _ _ (a5.st) _ _ _ H9.out).mono ?_;rintro e w99⟨rfl,lv99,h,m⟩;have H5:=hid h;have L5:=hid (acv.out.mv H9.out m);have B5:=hid (B9.out.trans (H9.out.low m));clear h m;have gl9:=gapG_len wild (a5.st);obtain⟨G,HG⟩:∃ G,Hid (acM wild (a5.st)=G):=⟨_,hid rfl⟩;rw [HG.out] at gl9 ⊢
 have cz0:¬ 9223372036854775807 < Y.length+G.length:=by omega
 have cz1:¬ 9223372036854775807 < Y.length+G.length+1:=by omega
 go_wp2_with fail;go_ret;exact itE (a:=a5) (HB.out.trans jX.out) HIY.out HG.out qP.out (by first|(rw [← ak];rfl)|(rw [← ak,← ak];rfl)) H5.out L5.out B5.out
theorem pi_fun {wild:Bool}{g:Nat}{iv:Value}{w0 w:World}{s:abd}{xs:List NV}{nv lv:Value}{its:List Int}(H:Hid (abH g wild iv w s xs nv lv))(LI:Hid (abK w0 w xs iv its))(hw:w0.heap.size≤w.heap.size)(hg:g < w0.heap.size)(hil:its.length≤1000)(hn:s.ns.length≤100000)(hb:s.nx % 7=2) :
  Calls Tryz.prog 72 #[.pointer (some ⟨g,0,none⟩)] w (ItemPost g wild w0 w its (itemG wild s)):=by
 obtain⟨Ai,ci,hiv⟩:=dh LI.out.row;subst hiv;obtain⟨j0,hj0,hy0,hy1,hy2⟩:=info_parts gN;have Ql:=hid fun (row:Option Nat) (w':World) (m:Mv g nv.ownBlock w row w')=>H.out.low m
 have M:=hid (abJ.refl (g:=g) (w:=w) (xs:=xs) (nv:=nv));have HLT:=hid (cB.lt LI.out.row);obtain⟨E,HEE⟩:∃ E,Hid (acG wild 4=E):=⟨_,hid rfl⟩;have X:=hid (x4_is wild);rw [HEE.out] at X
 have hm7:Int.tmod (s.nx:Int) 7=2:=by rw [Int.tmod_eq_emod_of_nonneg (by omega)];omega
 have HB:=hid (show itemG0 wild s=funG wild (acH s.tl.nx) s.tl.tl by unfold itemG0;simp only;rw [if_neg (by omega),if_neg (by omega),if_pos hb]);have HTR:=hid (show trailG s=[] from if_neg (fun h=>by omega));go_in
 go_wp2_with fail;refine (nxH H M).mono ?_;clear H M;rintro e w1⟨lv1,rfl,q1,H,M,R⟩
 replace LI:=kp R LI
 clear R;go_wp2_with fail;refine (nxH H M).mono ?_;clear H M;rintro e w2⟨lv2,rfl,q2,H,M,R⟩
 replace LI:=kp R LI
 clear R;go_wp2_with fail;refine (wdH (s.tl.nx) _).mono ?_;rintro e w3⟨x,rfl,Hx,lx,rfl⟩;rw [Hx.out] at HB
 clear hb;obtain⟨m5,hm5⟩:∃ m,m=(s.tl.tl).nx % 5:=⟨_,rfl⟩;have zm5:Int.tmod ((s.tl.tl).nx:Int) 5=(m5:Int):=by rw [Int.tmod_eq_emod_of_nonneg (by omega),hm5];omega
 have Hm5:=hid hm5.symm;have bm5:m5≤4:=by omega
 clear hm5;go_wp2_with fail;refine (nxH H M).mono ?_;clear H M;rintro e w4⟨lv4,rfl,q4,H,M,R⟩
 replace LI:=kp R LI
 clear R;go_wp2_with fail;refine (prH H M (m:=m5) (by omega) (by omega)).mono ?_;clear H M;rintro e w5⟨r5,T5,A5,c5,xs5,Fu,lv5,rfl,jX,zO,tl5,bn5,hrl5,LL,H,M,R⟩
 replace LI:=kp R LI
 clear R;go_wp2_with fail;refine (kdH H M (by omega)).mono ?_;clear H M;rintro e w6⟨a6,T6,xs6,XB,lv6,rfl,ow,HT6,acz,tl6,bn6,H,M,R⟩
 replace LI:=kp R LI
 replace LL:=kp R LL
 clear R;obtain⟨q,hq⟩:∃ m,m=(a6.st).nx % 12:=⟨_,rfl⟩;have zq:Int.tmod ((a6.st).nx:Int) 12=(q:Int):=by rw [Int.tmod_eq_emod_of_nonneg (by omega),hq];omega
 have acu:=hid hq.symm;have acy:q≤11:=by omega
 clear hq;have HUP:=hid (show uptoN a6.st=if 8 < q then 0 else q by unfold uptoN;rw [acu.out]);go_wp2_with fail;refine (nxH H M).mono ?_;clear H M;rintro e w7⟨lv7,rfl,q7,H,M,R⟩
 replace LI:=kp R LI
 replace LL:=kp R LL
 clear R;by_cases hq9:8 < q∨q=0
 ·have hz9:(8 < q∧(q:Int) > 8∧8 < (q:Int))∨q=0:=by omega
  rcases hz9 with ⟨z0,z1,z2⟩ | rfl
  all_goals
   have HUQ:=hid (show uptoN a6.st=0 by rw [HUP.out];first | rfl|(split <;> omega));go_wp2_with fail;refine (exH H M X (by omega)).mono ?_;clear H M;rintro e w8⟨a8,T8,xs8,V_,lv8,rfl,zL,HT8,acA,tl8,bn8,H,M,R⟩
   replace LI:=kp R LI
   replace LL:=kp R LL
   clear R;go_wp2_with fail;refine (gpH H M).mono ?_;clear H M;rintro e w9⟨ab0,lv9,rfl,HG9,gl9,acs,H,M,R⟩
   replace LI:=kp R LI
   replace LL:=kp R LL
   clear R;have cp1_0:¬ 9223372036854775807 < 3+ab0.length:=by omega
   have cp1_1:¬ 9223372036854775807 < 3+ab0.length+x.length:=by omega
   have cp1_2:¬ 9223372036854775807 < 3+ab0.length+x.length+1:=by omega
   have cp1_3:¬ 9223372036854775807 < 3+ab0.length+x.length+1+T5.length:=by omega
   have cp1_4:¬ 9223372036854775807 < 3+ab0.length+x.length+1+T5.length+1:=by omega
   go_wp2_with fail;refine (gpH H M).mono ?_;clear H M;rintro e Qv⟨G10,lv10,rfl,HG10,gl10,q10,H,M,R⟩
   replace LI:=kp R LI
   replace LL:=kp R LL
   clear R;clear cp1_0 cp1_1 cp1_2 cp1_3 cp1_4;have cp2_0:¬ 9223372036854775807 < 3+ab0.length:=by omega
   have cp2_1:¬ 9223372036854775807 < 3+ab0.length+x.length:=by omega
   have cp2_2:¬ 9223372036854775807 < 3+ab0.length+x.length+1:=by omega
   have cp2_3:¬ 9223372036854775807 < 3+ab0.length+x.length+1+T5.length:=by omega
   have cp2_4:¬ 9223372036854775807 < 3+ab0.length+x.length+1+T5.length+1:=by omega
   have cp2_5:¬ 9223372036854775807 < 3+ab0.length+x.length+1+T5.length+1+G10.length:=by omega
   have cp2_6:¬ 9223372036854775807 < 3+ab0.length+x.length+1+T5.length+1+G10.length+1:=by omega
   have cp2_7:¬ 9223372036854775807 < 3+ab0.length+x.length+1+T5.length+1+G10.length+1+T6.length:=by omega
   have cp2_8:¬ 9223372036854775807 < 3+ab0.length+x.length+1+T5.length+1+G10.length+1+T6.length+0:=by omega
   go_wp2_with fail;refine (gpH H M).mono ?_;clear H M;rintro e Et⟨G11,lv11,rfl,HG11,gl11,q11,H,M,R⟩
   replace LI:=kp R LI
   replace LL:=kp R LL
   clear R;clear cp2_0 cp2_1 cp2_2 cp2_3 cp2_4 cp2_5 cp2_6 cp2_7 cp2_8;have cq0:¬ 9223372036854775807 < 3+ab0.length:=by omega
   have cq1:¬ 9223372036854775807 < 3+ab0.length+x.length:=by omega
   have cq2:¬ 9223372036854775807 < 3+ab0.length+x.length+1:=by omega
   have cq3:¬ 9223372036854775807 < 3+ab0.length+x.length+1+T5.length:=by omega
   have cq4:¬ 9223372036854775807 < 3+ab0.length+x.length+1+T5.length+1:=by omega
   have cq5:¬ 9223372036854775807 < 3+ab0.length+x.length+1+T5.length+1+G10.length:=by omega
   have cq6:¬ 9223372036854775807 < 3+ab0.length+x.length+1+T5.length+1+G10.length+1:=by omega
   have cq7:¬ 9223372036854775807 < 3+ab0.length+x.length+1+T5.length+1+G10.length+1+T6.length:=by omega
   have cq8:¬ 9223372036854775807 < 3+ab0.length+x.length+1+T5.length+1+G10.length+1+T6.length+0:=by omega
   have cq9:¬ 9223372036854775807 < 3+ab0.length+x.length+1+T5.length+1+G10.length+1+T6.length+0+G11.length:=by omega
   have cq10:¬ 9223372036854775807 < 3+ab0.length+x.length+1+T5.length+1+G10.length+1+T6.length+0+G11.length+1:=by omega
   have cq11:¬ 9223372036854775807 < 3+ab0.length+x.length+1+T5.length+1+G10.length+1+T6.length+0+G11.length+1+T8.length:=by omega
   have LA:=hid (LL.out.alloc (.cells #[.int .i64 a6.ix,.int .i64 a8.ix] 3));have IA:=hid (LI.out.alloc (.cells #[.int .i64 a6.ix,.int .i64 a8.ix] 3));have HA:=hid (H.out.alloc (.cells #[.int .i64 a6.ix,.int .i64 a8.ix] 3));have MA:=hid (M.out.dD (o:=.cells #[.int .i64 a6.ix,.int .i64 a8.ix] 3));have hms:=MA.out.size;have hap:=hid (apart_hi HLT.out LL.out.lo);have hlow:=hid fun b hb=>Nat.le_trans (aaK (aaW hg hw)) (LL.out.lo b hb)
   clear LL LI H M;go_wp2_with (at_builtin;go_loud (refine wpList_append_lies _ rfl (.tmp 169) (.tmp 172) 24 rfl 0 3 j0 (.int .i64 0) 1 8 Tryz.underlying24 hj0 hy0 hy1 hy2 rfl (by decide) _ r5.ix.length (intCells r5.ix) rfl LA.out.row ⟨Et.heap.size,0,none⟩ 2 2 [.int .i64 a6.ix,.int .i64 a8.ix] rfl rfl (iP _ [.int .i64 a6.ix,.int .i64 a8.ix] _) (by intro u hu;simp at hu;rcases hu with rfl | rfl <;> rfl) (by omega) (by simp only [maxLen];omega) (by omega) (aaL _) _ rfl ?_);intro gg14 cap14 Tx hown hgrow hat hlt;have LL:=hid (LA.out.grows (js:=[a6.ix,a8.ix]) HA.out hown hat hms);have LI:=hid (IA.out.keep hgrow hap.out);have H:=hid (HA.out.grow LA.out hgrow hlow.out);have M:=hid (MA.out.grow LA.out hgrow);clear hown hgrow hat hlt)
   clear LA IA HA MA hms hap hlow;obtain⟨Y,HY⟩:∃ Y:Bs,Hid ([102,117,110] ++ ab0 ++ x ++ [40] ++ T5 ++ [41] ++ G10 ++ [58] ++ T6 ++ [] ++ G11 ++ [61] ++ T8=Y):=⟨_,hid rfl⟩;rw [show (⟨#[102,117,110]⟩:ByteArray) ++ aM (ab0) ++ aM (x) ++ (⟨#[40]⟩:ByteArray) ++ aM (T5) ++ (⟨#[41]⟩:ByteArray) ++ aM (G10) ++ (⟨#[58]⟩:ByteArray) ++ aM (T6) ++ (⟨#[]⟩:ByteArray) ++ aM (G11) ++ (⟨#[61]⟩:ByteArray) ++ aM (T8)=aM Y from by rw [← HY.out] <;> (simp only [← ak];rfl)];have abT:Y.length≤10000000:=by rw [← HY.out];simp only [aaO,List.length_cons,List.length_nil];omega
   refine (ptL H M LL (by omega)).mono ?_;clear H M;rintro e wQ⟨Dr,uL,rfl,H,M,R⟩
   replace LI:=hid (R.out _ _ _ HLT.out LI.out)
   clear R
   have HF:=hid (show funG wild x s.tl.tl=acP (([],3,[102,117,110]) :: (ab0,1,x) :: sgn [40] :: (r5.pc ++ sgn [41] :: (G10,4,[58]) :: (a6.pc ++ (([]:Pcs) ++ (G11,4,[61]) :: a8.pc)))) (acC wild (acC wild (acC wild (a8.st)))) ⟨42,x,0,(r5.ix ++ [a6.ix,a8.ix]),0⟩ from by
    unfold funG
    try simp only
    rw [Hm5.out,jX.out,ow.out,HUQ.out,if_neg (Nat.lt_irrefl 0),if_neg (Nat.lt_irrefl 0),HEE.out,zL.out,HG9.out,HG10.out,HG11.out] <;> rfl)
   have HIX:aN (([],3,[102,117,110]) :: (ab0,1,x) :: sgn [40] :: (r5.pc ++ sgn [41] :: (G10,4,[58]) :: (a6.pc ++ (([]:Pcs) ++ (G11,4,[61]) :: a8.pc)))) ++ trailG s=Y:=by
    rw [HTR.out,List.append_nil];simp only [aN,qZ,sgn];rw [zO.out,HT6.out,HT8.out,← HY.out] <;> simp only [List.nil_append,List.append_nil,List.append_assoc,List.cons_append]
   have HIY:=hid HIX;clear HIX;obtain⟨id,qP⟩:∃ id,Hid (abd.id (acC wild (acC wild (acC wild (a8.st))))=id):=⟨_,hid rfl⟩;rw [qP.out];have hrow:=(LI.out.alloc (.cells #[.int .i64 id] 3)).row;have HRW:=hid hrow;have cI:=H.out.blk.cell 2;clear hrow;go_wp2_with (at_builtin;go_loud (refine wpList_append_lies _ rfl (.tmp 234) (.tmp 236) 24 rfl 0 3 j0 (.int .i64 0) 1 8 Tryz.underlying24 hj0 hy0 hy1 hy2 rfl (by decide) _ its.length (intCells its) rfl HRW.out ⟨wQ.heap.size,0,none⟩ 1 1 [.int .i64 id] rfl rfl (cell_one_new _ _ _) (by intro u hu;simp at hu;subst hu;rfl) (by omega) (by simp only [maxLen];omega) (by omega) (aaL _) _ rfl ?_);intro gg cap Tx hown hgrow hat hlt;obtain⟨HK,H9,acv,B9⟩:=itB H M rfl Ql LI hw hg hown hgrow hat;have c14:=HK.cell 2;have f14:=HK.frozen 2;clear hown hgrow hat HK)
   refine (plGap_any g wild _ _ ((acC wild (acC wild (acC wild (a8.st)))).put ⟨42,x,0,(r5.ix ++ [a6.ix,a8.ix]),0⟩) _ _ _ H9.out).mono ?_;rintro e w99⟨rfl,lv99,h,m⟩;have H5:=hid h;have L5:=hid (acv.out.mv H9.out m);have B5:=hid (B9.out.trans (H9.out.low m));clear h m;have gl9:=gapG_len wild ((acC wild (acC wild (acC wild (a8.st)))).put ⟨42,x,0,(r5.ix ++ [a6.ix,a8.ix]),0⟩);obtain⟨G,HG⟩:∃ G,Hid (acM wild ((acC wild (acC wild (acC wild (a8.st)))).put ⟨42,x,0,(r5.ix ++ [a6.ix,a8.ix]),0⟩)=G):=⟨_,hid rfl⟩;rw [HG.out] at gl9 ⊢
   have cz0:¬ 9223372036854775807 < Y.length+G.length:=by omega
   have cz1:¬ 9223372036854775807 < Y.length+G.length+1:=by omega
   go_wp2_with fail;go_ret;exact itE (a:=acP (([],3,[102,117,110]) :: (ab0,1,x) :: sgn [40] :: (r5.pc ++ sgn [41] :: (G10,4,[58]) :: (a6.pc ++ (([]:Pcs) ++ (G11,4,[61]) :: a8.pc)))) (acC wild (acC wild (acC wild (a8.st)))) ⟨42,x,0,(r5.ix ++ [a6.ix,a8.ix]),0⟩) (HB.out.trans HF.out) HIY.out HG.out qP.out (by first|(rw [← ak];rfl)|(rw [← ak,← ak];rfl)) H5.out L5.out B5.out
 ·have h8:¬ 8 < q:=fun h=>hq9 (.inl h)
  have h0:0 < q:=Nat.pos_of_ne_zero fun h=>hq9 (.inr h)
  clear hq9;have ab7:¬ (q:Int) > 8:=by omega
  have z0:(q:Int) > 0:=by omega
  have z8b:¬ 8 < (q:Int):=by omega
  have z0b:0 < (q:Int):=by omega
  have HUQ:=hid (show uptoN a6.st=q by rw [HUP.out,if_neg h8]);have hit:=itoa_le ⟨q,by omega⟩;simp only at hit
  go_wp2_with fail;refine (gpH H M).mono ?_;clear H M;rintro e w8⟨abZ,lv8,rfl,HG8,gl8,q8,H,M,R⟩
  replace LI:=kp R LI
  replace LL:=kp R LL
  clear R;go_wp2_with fail;refine (itH H M (n:=(q:Int)) (by omega) (by omega)).mono ?_;clear H M;rintro e w9⟨U,rfl,HU,H,M,R⟩
  replace LI:=kp R LI
  replace LL:=kp R LL
  clear R;rw [HU.out] at hit
  have cu0:¬ 9223372036854775807 < 5+abZ.length:=by omega
  have cu1:¬ 9223372036854775807 < 5+abZ.length+U.length:=by omega
  go_wp2_with fail;obtain⟨V,HV⟩:∃ Y:Bs,Hid ([32,117,112,116,111] ++ abZ ++ U=Y):=⟨_,hid rfl⟩;rw [show (⟨#[32,117,112,116,111]⟩:ByteArray) ++ aM (abZ) ++ aM (U)=aM V from by rw [← HV.out] <;> (simp only [← ak];rfl)];have ab8:V.length≤10000000:=by rw [← HV.out];simp only [aaO,List.length_cons,List.length_nil];omega
  have lV2:V.length≤30:=by rw [← HV.out];simp only [aaO,List.length_cons,List.length_nil];omega
  refine (exH H M X (by omega)).mono ?_;clear H M;rintro e Qv⟨a10,T10,xs10,nv10,lv10,rfl,vO,HT10,O10,tl10,bn10,H,M,R⟩
  replace LI:=kp R LI
  replace LL:=kp R LL
  clear R;go_wp2_with fail;refine (gpH H M).mono ?_;clear H M;rintro e Et⟨G11,lv11,rfl,HG11,gl11,q11,H,M,R⟩
  replace LI:=kp R LI
  replace LL:=kp R LL
  clear R;have cp1_0:¬ 9223372036854775807 < 3+G11.length:=by omega
  have cp1_1:¬ 9223372036854775807 < 3+G11.length+x.length:=by omega
  have cp1_2:¬ 9223372036854775807 < 3+G11.length+x.length+1:=by omega
  have cp1_3:¬ 9223372036854775807 < 3+G11.length+x.length+1+T5.length:=by omega
  have cp1_4:¬ 9223372036854775807 < 3+G11.length+x.length+1+T5.length+1:=by omega
  go_wp2_with fail;refine (gpH H M).mono ?_;clear H M;rintro e wQ⟨G12,lv12,rfl,HG12,gl12,q12,H,M,R⟩
  replace LI:=kp R LI
  replace LL:=kp R LL
  clear R;clear cp1_0 cp1_1 cp1_2 cp1_3 cp1_4;have cp2_0:¬ 9223372036854775807 < 3+G11.length:=by omega
  have cp2_1:¬ 9223372036854775807 < 3+G11.length+x.length:=by omega
  have cp2_2:¬ 9223372036854775807 < 3+G11.length+x.length+1:=by omega
  have cp2_3:¬ 9223372036854775807 < 3+G11.length+x.length+1+T5.length:=by omega
  have cp2_4:¬ 9223372036854775807 < 3+G11.length+x.length+1+T5.length+1:=by omega
  have cp2_5:¬ 9223372036854775807 < 3+G11.length+x.length+1+T5.length+1+G12.length:=by omega
  have cp2_6:¬ 9223372036854775807 < 3+G11.length+x.length+1+T5.length+1+G12.length+1:=by omega
  have cp2_7:¬ 9223372036854775807 < 3+G11.length+x.length+1+T5.length+1+G12.length+1+T6.length:=by omega
  have cp2_8:¬ 9223372036854775807 < 3+G11.length+x.length+1+T5.length+1+G12.length+1+T6.length+V.length:=by omega
  go_wp2_with fail;refine (gpH H M).mono ?_;clear H M;rintro e w13⟨G13,lv13,rfl,HG13,gl13,q13,H,M,R⟩
  replace LI:=kp R LI
  replace LL:=kp R LL
  clear R;clear cp2_0 cp2_1 cp2_2 cp2_3 cp2_4 cp2_5 cp2_6 cp2_7 cp2_8;have cq0:¬ 9223372036854775807 < 3+G11.length:=by omega
  have cq1:¬ 9223372036854775807 < 3+G11.length+x.length:=by omega
  have cq2:¬ 9223372036854775807 < 3+G11.length+x.length+1:=by omega
  have cq3:¬ 9223372036854775807 < 3+G11.length+x.length+1+T5.length:=by omega
  have cq4:¬ 9223372036854775807 < 3+G11.length+x.length+1+T5.length+1:=by omega
  have cq5:¬ 9223372036854775807 < 3+G11.length+x.length+1+T5.length+1+G12.length:=by omega
  have cq6:¬ 9223372036854775807 < 3+G11.length+x.length+1+T5.length+1+G12.length+1:=by omega
  have cq7:¬ 9223372036854775807 < 3+G11.length+x.length+1+T5.length+1+G12.length+1+T6.length:=by omega
  have cq8:¬ 9223372036854775807 < 3+G11.length+x.length+1+T5.length+1+G12.length+1+T6.length+V.length:=by omega
  have cq9:¬ 9223372036854775807 < 3+G11.length+x.length+1+T5.length+1+G12.length+1+T6.length+V.length+G13.length:=by omega
  have cq10:¬ 9223372036854775807 < 3+G11.length+x.length+1+T5.length+1+G12.length+1+T6.length+V.length+G13.length+1:=by omega
  have cq11:¬ 9223372036854775807 < 3+G11.length+x.length+1+T5.length+1+G12.length+1+T6.length+V.length+G13.length+1+T10.length:=by omega
  have LA:=hid (LL.out.alloc (.cells #[.int .i64 a6.ix,.int .i64 a10.ix] 3));have IA:=hid (LI.out.alloc (.cells #[.int .i64 a6.ix,.int .i64 a10.ix] 3));have HA:=hid (H.out.alloc (.cells #[.int .i64 a6.ix,.int .i64 a10.ix] 3));have MA:=hid (M.out.dD (o:=.cells #[.int .i64 a6.ix,.int .i64 a10.ix] 3));have hms:=MA.out.size;have hap:=hid (apart_hi HLT.out LL.out.lo);have hlow:=hid fun b hb=>Nat.le_trans (aaK (aaW hg hw)) (LL.out.lo b hb)
  clear LL LI H M;go_wp2_with (at_builtin;go_loud (refine wpList_append_lies _ rfl (.tmp 169) (.tmp 172) 24 rfl 0 3 j0 (.int .i64 0) 1 8 Tryz.underlying24 hj0 hy0 hy1 hy2 rfl (by decide) _ r5.ix.length (intCells r5.ix) rfl LA.out.row ⟨w13.heap.size,0,none⟩ 2 2 [.int .i64 a6.ix,.int .i64 a10.ix] rfl rfl (iP _ [.int .i64 a6.ix,.int .i64 a10.ix] _) (by intro u hu;simp at hu;rcases hu with rfl | rfl <;> rfl) (by omega) (by simp only [maxLen];omega) (by omega) (aaL _) _ rfl ?_);intro gg14 cap14 Tx hown hgrow hat hlt;have LL:=hid (LA.out.grows (js:=[a6.ix,a10.ix]) HA.out hown hat hms);have LI:=hid (IA.out.keep hgrow hap.out);have H:=hid (HA.out.grow LA.out hgrow hlow.out);have M:=hid (MA.out.grow LA.out hgrow);clear hown hgrow hat hlt)
  clear LA IA HA MA hms hap hlow;obtain⟨Y,HY⟩:∃ Y:Bs,Hid ([102,117,110] ++ G11 ++ x ++ [40] ++ T5 ++ [41] ++ G12 ++ [58] ++ T6 ++ V ++ G13 ++ [61] ++ T10=Y):=⟨_,hid rfl⟩;rw [show (⟨#[102,117,110]⟩:ByteArray) ++ aM (G11) ++ aM (x) ++ (⟨#[40]⟩:ByteArray) ++ aM (T5) ++ (⟨#[41]⟩:ByteArray) ++ aM (G12) ++ (⟨#[58]⟩:ByteArray) ++ aM (T6) ++ aM (V) ++ aM (G13) ++ (⟨#[61]⟩:ByteArray) ++ aM (T10)=aM Y from by rw [← HY.out] <;> (simp only [← ak];rfl)];have abT:Y.length≤10000000:=by rw [← HY.out];simp only [aaO,List.length_cons,List.length_nil];omega
  refine (ptL H M LL (by omega)).mono ?_;clear H M;rintro e Tx⟨xs14,nv14,rfl,H,M,R⟩
  replace LI:=hid (R.out _ _ _ HLT.out LI.out)
  clear R
  have HF:=hid (show funG wild x s.tl.tl=acP (([],3,[102,117,110]) :: (G11,1,x) :: sgn [40] :: (r5.pc ++ sgn [41] :: (G12,4,[58]) :: (a6.pc ++ ([([32],3,[117,112,116,111]),(abZ,2,U)] ++ (G13,4,[61]) :: a10.pc)))) (acC wild (acC wild (acC wild (a10.st)))) ⟨42,x,(q:Int),(r5.ix ++ [a6.ix,a10.ix]),0⟩ from by
   unfold funG
   try simp only
   rw [Hm5.out,jX.out,ow.out,HUQ.out,if_pos h0,if_pos h0,HG8.out,HU.out,HEE.out,vO.out,HG11.out,HG12.out,HG13.out] <;> rfl)
  have HIX:aN (([],3,[102,117,110]) :: (G11,1,x) :: sgn [40] :: (r5.pc ++ sgn [41] :: (G12,4,[58]) :: (a6.pc ++ ([([32],3,[117,112,116,111]),(abZ,2,U)] ++ (G13,4,[61]) :: a10.pc)))) ++ trailG s=Y:=by
   rw [HTR.out,List.append_nil];simp only [aN,qZ,sgn];rw [zO.out,HT6.out,HT10.out,← HY.out,← HV.out] <;> simp only [List.nil_append,List.append_nil,List.append_assoc,List.cons_append]
  have HIY:=hid HIX;clear HIX;obtain⟨id,qP⟩:∃ id,Hid (abd.id (acC wild (acC wild (acC wild (a10.st))))=id):=⟨_,hid rfl⟩;rw [qP.out];have hrow:=(LI.out.alloc (.cells #[.int .i64 id] 3)).row;have HRW:=hid hrow;have cI:=H.out.blk.cell 2;clear hrow;go_wp2_with (at_builtin;go_loud (refine wpList_append_lies _ rfl (.tmp 234) (.tmp 236) 24 rfl 0 3 j0 (.int .i64 0) 1 8 Tryz.underlying24 hj0 hy0 hy1 hy2 rfl (by decide) _ its.length (intCells its) rfl HRW.out ⟨Tx.heap.size,0,none⟩ 1 1 [.int .i64 id] rfl rfl (cell_one_new _ _ _) (by intro u hu;simp at hu;subst hu;rfl) (by omega) (by simp only [maxLen];omega) (by omega) (aaL _) _ rfl ?_);intro gg cap Tx hown hgrow hat hlt;obtain⟨HK,H9,acv,B9⟩:=itB H M rfl Ql LI hw hg hown hgrow hat;have c14:=HK.cell 2;have f14:=HK.frozen 2;clear hown hgrow hat HK)
  refine (plGap_any g wild _ _ ((acC wild (acC wild (acC wild (a10.st)))).put ⟨42,x,(q:Int),(r5.ix ++ [a6.ix,a10.ix]),0⟩) _ _ _ H9.out).mono ?_;rintro e w99⟨rfl,lv99,h,m⟩;have H5:=hid h;have L5:=hid (acv.out.mv H9.out m);have B5:=hid (B9.out.trans (H9.out.low m));clear h m;have gl9:=gapG_len wild ((acC wild (acC wild (acC wild (a10.st)))).put ⟨42,x,(q:Int),(r5.ix ++ [a6.ix,a10.ix]),0⟩);obtain⟨G,HG⟩:∃ G,Hid (acM wild ((acC wild (acC wild (acC wild (a10.st)))).put ⟨42,x,(q:Int),(r5.ix ++ [a6.ix,a10.ix]),0⟩)=G):=⟨_,hid rfl⟩;rw [HG.out] at gl9 ⊢
  have cz0:¬ 9223372036854775807 < Y.length+G.length:=by omega
  have cz1:¬ 9223372036854775807 < Y.length+G.length+1:=by omega
  go_wp2_with fail;go_ret;exact itE (a:=acP (([],3,[102,117,110]) :: (G11,1,x) :: sgn [40] :: (r5.pc ++ sgn [41] :: (G12,4,[58]) :: (a6.pc ++ ([([32],3,[117,112,116,111]),(abZ,2,U)] ++ (G13,4,[61]) :: a10.pc)))) (acC wild (acC wild (acC wild (a10.st)))) ⟨42,x,(q:Int),(r5.ix ++ [a6.ix,a10.ix]),0⟩) (HB.out.trans HF.out) HIY.out HG.out qP.out (by first|(rw [← ak];rfl)|(rw [← ak,← ak];rfl)) H5.out L5.out B5.out
end Go.Proofs.YthepmkjggfijoaaGreatDoor
namespace Go.Proofs.YthepmkjggfijoaaGreatDoor
open Go.RowKit Mist
theorem pl_item (wild:Bool)(g:Nat)(iv:Value)(w0 w:World)(s:abd)(xs:List NV)(nv lv:Value)(its:List Int)(h:abH g wild iv w s xs nv lv)(hI:abK w0 w xs iv its)(hw:w0.heap.size≤w.heap.size)(hg:g < w0.heap.size)(hil:its.length≤1000)(hn:s.ns.length≤100000) :
  Calls Tryz.prog 72 #[.pointer (some ⟨g,0,none⟩)] w (ItemPost g wild w0 w its (itemG wild s)):=by
 have h7:s.nx % 7 < 7:=Nat.mod_lt _ (by decide);obtain hb | hb | hb | hb | hb | hb | hb:s.nx % 7=0∨s.nx % 7=1∨s.nx % 7=2∨s.nx % 7=3∨s.nx % 7=4∨s.nx % 7=5∨s.nx % 7=6:=by omega
 ·exact pi_choose (hid h) (hid hI) hw hg hil hn hb
 ·exact pi_type (hid h) (hid hI) hw hg hil hn hb
 ·exact pi_fun (hid h) (hid hI) hw hg hil hn hb
 ·exact pi_letI (hid h) (hid hI) hw hg hil hn hb
 ·exact pi_observe (hid h) (hid hI) hw hg hil hn hb
 ·exact pi_retract (hid h) (hid hI) hw hg hil hn hb
 ·exact pi_ask (hid h) (hid hI) hw hg hil hn hb
end Go.Proofs.YthepmkjggfijoaaGreatDoor
namespace Go.Proofs.YthepmkjggfijoaaGreatDoor
open Go.RowKit Mist
attribute [local go_sem] aj aH aS aB ak
def gtxt (r:aa'):Bs:=aN r.pc ++ (if r.ix=[] then [] else [10])
theorem grow_left (wild:Bool)(m:Nat){r:aa'}(h:r.st.left=[]):growG wild m r=r:=by
 cases m with
 | zero=>rfl
 | succ m=>rw [growG,if_pos h]
def growStep (wild:Bool)(r:aa'):aa':=⟨r.pc ++ (if r.ix=[] then (itemG wild r.st).pc else Pcs.on [10] (itemG wild r.st).pc),r.ix ++ [(itemG wild r.st).ix],(itemG wild r.st).st⟩
theorem grow_more (wild:Bool)(m:Nat){r:aa'}(h:r.st.left ≠ []):growG wild (m+1) r=growG wild m (growStep wild r):=by
 rw [growG,if_neg h];rfl
theorem step_text (wild:Bool)(r:aa')(h:r.ix=[]→r.pc=[]):gtxt (growStep wild r)=gtxt r ++ (aN (itemG wild r.st).pc ++ [10]):=by
 have hs:=(item_good wild r.st).2
 show aN (r.pc ++ (if r.ix=[] then (itemG wild r.st).pc else Pcs.on [10] (itemG wild r.st).pc)) ++ (if r.ix ++ [(itemG wild r.st).ix]=[] then [] else [10])=aN r.pc ++ (if r.ix=[] then [] else [10]) ++ (aN (itemG wild r.st).pc ++ [10])
 have e:¬ (r.ix ++ [(itemG wild r.st).ix]=[]):=by simp
 rw [if_neg e,qZ];by_cases h0:r.ix=[]
 ·rw [if_pos h0,if_pos h0,h h0];simp only [aN,List.nil_append,List.append_nil,List.append_assoc]
 ·rw [if_neg h0,if_neg h0,hs.text];simp only [List.append_assoc]
theorem step_len (wild:Bool)(r:aa')(h:r.ix=[]→r.pc=[]):(gtxt (growStep wild r)).length≤(gtxt r).length+12001∧(growStep wild r).st.ns.length≤r.st.ns.length+900:=by
 obtain⟨h1,h2⟩:=itemG_bd wild r.st
 refine⟨?_,h2⟩
 rw [step_text wild r h,aaO,aaO];have h1:(aN (itemG wild r.st).pc).length≤12000:=h1
 show _+(_+1)≤_
 omega
def cntB (t:Bs):Nat:=(t.filter fun b=>!(b == 32) && !(b == 10)).length
theorem cntB_le (t:Bs):cntB t≤t.length:=List.length_filter_le _ _
theorem cntB_step {t:Bs}{k:Nat}(hk:k < t.length):cntB (t.take (k+1))=cntB (t.take k)+if (gt t k == 32 || gt t k == 10)=true then 0 else 1:=by
 have hg:t[k]? = some (gt t k):=by unfold gt;rw [aaH,aaD hk];rfl
 unfold cntB;rw [List.take_add_one,hg,List.filter_append,aaO]
 generalize gt t k=b
 show _+(List.filter _ [b]).length=_
 cases h1:b == 32 <;> cases h2:b == 10 <;> simp [h1,h2]
theorem grownText_is (wild:Bool)(zA:Bs):grownText wild zA=gtxt (grown wild zA):=rfl
theorem cnt_eq (b:UInt8):(if (b == 32 || b == 10)=true then 0 else 1)=if b.toNat=32∨b.toNat=10 then 0 else 1:=by
 have e:∀ k:UInt8,(b == k)=decide (b.toNat=k.toNat):=fun k=>by
  by_cases h:b=k
  ·subst h;simp
  ·have h2:¬ b.toNat=k.toNat:=fun hh=>h (UInt8.toNat_inj.1 hh)
   rw [aaV h2];simpa using h
 rw [e 32,e 10];have h1:(32:UInt8).toNat=32:=rfl;have h2:(10:UInt8).toNat=10:=rfl;rw [h1,h2];simp
theorem SeedIn.up {w:World}{g g':Nat}{lv:Value}{l:Bs}(h:SeedIn w g lv l)(hg:g≤g'):SeedIn w g' lv l:=by
 obtain⟨A,c,rfl,hc,hc2,hr⟩:=h
 refine⟨A,c,rfl,hc,hc2,fun h0=>?_⟩
 obtain⟨b,o,rfl,h1,h2,h3⟩:=hr h0;exact⟨b,o,rfl,by omega,h2,h3⟩
def Pow (w : World) : Prop := Lib.TabBelow Tryz.prog w.heap.size w "internal/strconv.uint64pow10" .u64 Lib.pow10Tab
def TreeRow (w:World)(A B:Option Addr)(xs:List NV)(its:List Int):Prop:=(∀ x ∈ xs,x.1.kids.length≤1000000)→mq w A B xs its
structure GRows (w:World) (A B:Option Addr) (c d:Nat) (xs:List NV) (its:List Int):Prop where
 own:∃ g,w.ownsRow g 50 5 (.slice A xs.length c) xs.length (iO xs)
 kids:∀ x ∈ xs,cB w x.2 x.1.kids
 row:cB w (.slice B its.length d) its
section
variable {w w':World} {A B:Option Addr} {c d:Nat} {xs:List NV} {its:List Int}
theorem GRows.set (h:GRows w A B c d xs its){tb:Nat}{cs:Array Value}(hz:aC w tb 26 cs)(i:Nat)(u:Value):GRows (w.setCell ⟨tb,i,none⟩ u) A B c d xs its:=by
 obtain⟨g,ho⟩:=h.own;exact⟨⟨g,ownsRow_setCell_other ho (aT ho hz (by decide)) u⟩,fun x hx=>ownsRow_setCell_other (h.kids x hx) (aT (h.kids x hx) hz (by decide)) u,ownsRow_setCell_other h.row (aT h.row hz (by decide)) u⟩
theorem GRows.below (h:GRows w A B c d xs its)(hb:Below w.heap.size w w'):GRows w' A B c d xs its:=by
 obtain⟨g,ho⟩:=h.own;exact⟨⟨g,own_below ho hb⟩,fun x hx=>own_below (h.kids x hx) hb,own_below h.row hb⟩
theorem GRows.tree (h:GRows w A B c d xs its):TreeRow w A B xs its:=fun hk=>by
 obtain⟨g,ho⟩:=h.own
 refine⟨fun h0=>?_,yI h.row rfl⟩
 obtain⟨gb,e,hn⟩:=Ee ho h0 (fun x hx=>⟨_,h.kids x hx⟩) hk;exact⟨gb,0,e,hn⟩
theorem abH.rows {g:Nat}{wild:Bool}{iv lv:Value}{w0:World}{s:abd}(h:abH g wild iv w s xs (.slice A xs.length c) lv)(hI:abK w0 w xs (.slice B its.length d) its):GRows w A B c d xs its:=⟨⟨g,h.own⟩,h.kids,hI.row⟩
end
def GrowPost (wild:Bool)(zA:Bs)(w:World)(e:Ending)(w':World):Prop :=
 Below w.heap.size w w'∧∃ A B c d xs,e=.returned (.tuple #[.string (aM (grownText wild zA)),.agg #[.slice A xs.length c,.slice B (grown wild zA).ix.length d],.bool (grownOk (grownText wild zA))]) ∧
  aA xs=(grown wild zA).st.ns∧TreeRow w' A B xs (grown wild zA).ix
theorem below_two {w w2 w':World}{g:Nat}(h1:Below w.heap.size w w2)(h2:Below g w2 w')(hg:w.heap.size≤g):Below w.heap.size w w':=h1.trans (h2.mono hg)
theorem grow_any (wild:Bool)(zA:Bs)(lv0:Value)(w:World)(hP:Pow w)(hS:SeedIn w w.heap.size lv0 zA) :
  Calls Tryz.prog 28 #[lv0,.bool wild] w (GrowPost wild zA w):=by
 obtain⟨A0,c0,rfl,_⟩:=id hS;have hbW:Below w.heap.size w ((w.alloc (.cells #[.slice none 0 0,.slice none 0 0] 26)).alloc (.cells #[.slice A0 zA.length c0,.slice none 0 0,.slice none 0 0,.bool wild] 81)):=ah (ah (Below.refl _ _) (aaJ _)) (by simp)
 have HPL:=hid (show abH (w.heap.size+1) wild (.slice none 0 0) ((w.alloc (.cells #[.slice none 0 0,.slice none 0 0] 26)).alloc (.cells #[.slice A0 zA.length c0,.slice none 0 0,.slice none 0 0,.bool wild] 81)) ⟨zA,[]⟩ [] (.slice none 0 0) (.slice A0 zA.length c0) from
  ⟨dL (W:=w.alloc (.cells #[.slice none 0 0,.slice none 0 0] 26)) (by simp),(hS.below hbW (aaJ _)).up (by omega),World.ownsRow_nil _ _ _ _,(fun x hx=>nomatch hx),rfl,fun w2 hb=>hP w2 (hbW.trans (hb.mono (by omega)))⟩)
 have rE:=hid ((aC.new w 26 #[.slice none 0 0,.slice none 0 0]).alloc (.cells #[.slice A0 zA.length c0,.slice none 0 0,.slice none 0 0,.bool wild] 81));have TL:=hid (abK.nil ((w.alloc (.cells #[.slice none 0 0,.slice none 0 0] 26)).alloc (.cells #[.slice A0 zA.length c0,.slice none 0 0,.slice none 0 0,.bool wild] 81)) ((w.alloc (.cells #[.slice none 0 0,.slice none 0 0] 26)).alloc (.cells #[.slice A0 zA.length c0,.slice none 0 0,.slice none 0 0,.bool wild] 81)) []);have EZ:=hid hbW;clear hbW hS hP;go_in
 go_wp2_with fail;obtain⟨g,hg⟩:∃ g,g=w.heap.size+1:=⟨_,rfl⟩;rw [← hg] at HPL ⊢
 have hg1:w.heap.size < g:=by omega
 have hsz:g < ((w.alloc (.cells #[.slice none 0 0,.slice none 0 0] 26)).alloc (.cells #[.slice A0 zA.length c0,.slice none 0 0,.slice none 0 0,.bool wild] 81)).heap.size:=by simp;omega
 clear hg
 generalize (w.alloc (.cells #[.slice none 0 0,.slice none 0 0] 26)).alloc (.cells #[.slice A0 zA.length c0,.slice none 0 0,.slice none 0 0,.bool wild] 81)=w2 at HPL rE TL EZ hsz ⊢
 go_loopw [8,9] (fun sv i wr=>∃ (k:Nat) (r:aa') (X:Bs) (iv nv lv:Value) (xs:List NV),k≤12∧i=.int .i64 k∧sv=.string (aM X)∧Hid (X=gtxt r)∧Hid (growG wild (12 - k) r=grown wild zA)∧Hid (r.ix=[]→r.pc=[])∧r.ix.length≤k∧X.length≤k * 12001∧r.st.ns.length≤k * 900∧Hid (abH g wild iv wr r.st xs nv lv)∧Hid (abK w2 wr xs iv r.ix)∧Hid (Below g w2 wr)) (fun _ i _=>12 - (intOf i).toNat)
 case atStart=>exact⟨0,⟨[],[],⟨zA,[]⟩⟩,[],_,_,_,[],aaL _,rfl,rfl,hid rfl,hid rfl,hid fun _=>rfl,aaJ _,aaJ _,aaJ _,HPL,TL,hid (Below.refl _ _)⟩
 case round =>
  clear HPL TL;obtain⟨wo,rfl⟩:∃ wo:World,wo=wr:=⟨_,rfl⟩;obtain⟨k,r,X,iv,nv,lv,xs,hk,rfl,rfl,HX,HR,HN,hil,hXl,hnl,H,L,HB⟩:=hrel;have hws:=HB.out.size;obtain⟨A1,c1,rfl,_⟩:=id H.out.seed;have c0:=H.out.blk.cell 0;obtain⟨n,hn⟩:∃ n,n=r.st.left.length:=⟨_,rfl⟩;rw [← hn] at c0 H
  by_cases hgo:k < 12∧0 < n
  ·obtain⟨h12,hn0⟩:=hgo;have hne:r.st.left ≠ []:=fun h=>by rw [h] at hn;simp at hn;omega
   obtain⟨mm,hmm⟩:∃ mm,12 - k=mm+1:=⟨12 - k - 1,by omega⟩;have hRR:=HR.out;rw [hmm,grow_more wild mm hne] at hRR
   have HRR:=hid hRR;have U1:=hid (show 12 - (k+1)=mm by omega);have HSL:=hid (step_len wild r HN.out);have HST:=hid (step_text wild r HN.out);have z12:(k:Int) < 12:=by omega
   have zn:(0:Int) < (n:Int):=by omega
   have hbd:=(itemG_bd wild r.st).1;obtain⟨a,ha⟩:∃ a,a=itemG wild r.st:=⟨_,rfl⟩;have HA:=hid ha;clear hne hmm hRR ha hn;rw [← HA.out] at hbd
   go_wp2_with fail;refine (pl_item wild g iv w2 _ r.st xs nv _ r.ix H.out L.out hws hsz (by omega) (by omega)).mono ?_;rintro e w3⟨rfl,AY,xs',eO,lv',h,l,b⟩;rw [← HA.out] at h l ⊢
   have H3:=hid h;have L3:=hid l;have B3:=hid (HB.out.trans b);clear h l b H L HB;obtain⟨T,hT⟩:∃ T,T=aN a.pc:=⟨_,rfl⟩;have hTl:T.length≤12000:=by rw [hT];exact hbd
   rw [← hT];have HT:=hid hT;clear hT hbd;have q0:¬ 9223372036854775807 < T.length+1:=by omega
   have q1:¬ 9223372036854775807 < X.length+(T.length+1):=by omega
   go_wp2_with fail;have HXN:=hid (show X ++ (T ++ [10])=gtxt (growStep wild r) by rw [HST.out,HX.out,HT.out,HA.out])
   refine⟨⟨k+1,growStep wild r,X ++ (T ++ [10]),_,_,_,_,by omega,by go_num,?_,HXN,hid (by rw [U1.out];exact HRR.out),hid fun h=>by simp [growStep] at h,by show (r.ix ++ [_]).length≤_;rw [aaO];exact Nat.add_le_add_right hil 1,by simp only [aaO,List.length_cons,List.length_nil];omega,by have:=HSL.out.2;omega,by show Hid (abH g wild AY w3 (itemG wild r.st).st xs' eO lv');rw [← HA.out];exact H3,by show Hid (abK w2 w3 xs' AY (r.ix ++ [(itemG wild r.st).ix]));rw [← HA.out];exact L3,B3⟩,by simp [intOf];omega⟩
   refine congrArg Value.string ?_;rw [← ak,← ak];rfl
  ·have hend:growG wild (12 - k) r=r:=by
    by_cases h12:k < 12
    ·exact grow_left wild _ (List.eq_nil_of_length_eq_zero (by omega))
    ·rw [show 12 - k=0 by omega];rfl
   have HE:=hid (show r=grown wild zA by rw [← HR.out,hend]);clear hend HR hn
   have hcond:(decide ((k:Int) < 12) && decide ((0:Int) < (n:Int)))=false:=by
    rcases Nat.lt_or_ge k 12 with h | h
    ·rw [aaV (by omega:¬ (0:Int) < (n:Int)),Bool.and_false]
    ·rw [aaV (by omega:¬ (k:Int) < 12),Bool.false_and]
   have hX5:X.length≤200000:=by omega
   have HXE:=hid (show X=grownText wild zA by rw [grownText_is,← HE.out,HX.out]);have HIX:=hid (show r.ix=(grown wild zA).ix by rw [← HE.out]);have rC:=hid (show r.st.ns=(grown wild zA).st.ns by rw [← HE.out]);obtain⟨An,cn,rfl⟩:=dh H.out.own;obtain⟨Av,cv,rfl⟩:=dh L.out.row;have hgb:g < wo.heap.size:=H.out.lt;have h12:((k:Int) < 12∧¬ (0:Int) < (n:Int))∨¬ (k:Int) < 12:=by omega
   rcases h12 with ⟨z12,zn⟩ | z12
   all_goals
    go_wp2_with fail;go_loopw [10,11] (fun t i wq=>∃ j:Nat,j≤X.length∧i=.int .i64 j∧t=.int .i64 (cntB (X.take j))∧wq=wo) (fun _ i _=>X.length - (intOf i).toNat)
    case atStart=>exact⟨0,aaL _,rfl,by simp [cntB],rfl⟩
    case round =>
     obtain⟨j,hj,rfl,rfl,rfl⟩:=hrel;by_cases hlt:j < X.length
     ·obtain⟨b,hb⟩:∃ b,b=gt X j:=⟨_,rfl⟩;have hcs:=cntB_step hlt;have hcl:=cntB_le (X.take j);have hcl2:(X.take j).length≤X.length:=by rw [List.length_take];omega
      rw [← hb,cnt_eq] at hcs
      obtain⟨u,hu⟩:∃ u,u=cntB (X.take j):=⟨_,rfl⟩;rw [← hu] at hcs hcl ⊢
      have hbg:gt X j=b:=hb.symm;have z0:(0:Int)≤(j:Int):=by omega
      have z1:(j:Int) < (X.length:Int):=by omega
      obtain⟨v,hv⟩:∃ v,v=b.toNat:=⟨_,rfl⟩;rw [← hv] at hcs
      have hbv:(gt X j).toNat=v:=by rw [hbg,hv]
      clear hb hu hbg hv;have hul:u≤200000:=by omega
      by_cases e32:v=32
      ·subst e32;rw [if_pos (.inl rfl)] at hcs
       have HCS:=hid hcs;clear hcs;go_wp2_with fail;exact⟨⟨j+1,by omega,by go_num,by rw [HCS.out];go_num,trivial⟩,by simp [intOf];omega⟩
      have z32:((v:Int) != 32)=true:=by simp;omega
      by_cases e10:v=10
      ·subst e10;rw [if_pos (.inr rfl)] at hcs
       have HCS:=hid hcs;clear hcs;go_wp2_with fail;exact⟨⟨j+1,by omega,by go_num,by rw [HCS.out];go_num,trivial⟩,by simp [intOf];omega⟩
      have z10:((v:Int) != 10)=true:=by simp;omega
      rw [if_neg (by omega)] at hcs
      have HCS:=hid hcs;clear hcs;go_wp2_with fail;exact⟨⟨j+1,by omega,by go_num,by rw [HCS.out];go_num,trivial⟩,by simp [intOf];omega⟩
     ·obtain rfl:j=X.length:=by omega
      rw [List.take_length];have hcl:=cntB_le X;obtain⟨u,hu⟩:∃ u,u=cntB X:=⟨_,rfl⟩;rw [← hu] at hcl ⊢
      have HOK:=hid (show grownOk X=(decide (X.length≤2000) && decide (u≤800)) by rw [hu];rfl);clear hu;have d1:=H.out.blk.cell 1;have d2:=H.out.blk.cell 2;have HTW:=hid (rE.out.below HB.out hg1);have e0:=HTW.out.cell 0;have e1:=HTW.out.cell 1;have f0:=HTW.out.frozen 0;have f1:=HTW.out.frozen 1;have HTX:=hid ((((HTW.out.d_ 0 (.slice An xs.length cn)).d_ 1 (.slice Av r.ix.length cv))).below (Below.drew (Below.refl ((wr.setCell ⟨w.heap.size,0,none⟩ (.slice An xs.length cn)).setCell ⟨w.heap.size,1,none⟩ (.slice Av r.ix.length cv)).heap.size _)) (by have:=HTW.out.lt;simpa using this));have HGR:=hid ((((H.out.rows L.out).set HTW.out 0 (.slice An xs.length cn)).set (HTW.out.d_ 0 (.slice An xs.length cn)) 1 (.slice Av r.ix.length cv)).below (Below.drew (Below.refl _ _)));have HBB:=hid (Below.drew (dx (b:=w.heap.size) (i:=1) (u:=.slice Av r.ix.length cv) (dx (b:=w.heap.size) (i:=0) (u:=.slice An xs.length cn) (below_two EZ.out HB.out (by omega)) (aaJ _)) (aaJ _)));have HFIN:=hid fun (b:Bool) (hb:grownOk X=b)=>(show GrowPost wild zA w (.returned (.tuple #[.string (aM X),.agg #[.slice An xs.length cn,.slice Av r.ix.length cv],.bool b])) _ from ⟨HBB.out,An,Av,cn,cv,xs,by rw [← HXE.out,← HIX.out,hb],by rw [← rC.out];exact H.out.ns,by rw [← HIX.out];exact HGR.out.tree⟩)
      by_cases k1:X.length≤2000
      ·have z1:(X.length:Int)≤2000:=by omega
       by_cases k2:u≤800
       ·have z2:(u:Int)≤800:=by omega
        go_wp2_with fail;go_region
        go_wp2_with fail;have r0:=HTX.out.cell 0;have r1:=HTX.out.cell 1;refine bodyPost_ret (v:=.tuple #[.string (aM X),.agg #[.slice An xs.length cn,.slice Av r.ix.length cv],.bool true]) (by simp [results,Tryz.f28,go_sem,r0,r1] <;> omega) rfl ?_;exact HFIN.out true (by rw [HOK.out];rw [aaU k1,aaU k2];rfl)
       ·have z2:¬ (u:Int)≤800:=by omega
        go_wp2_with fail;go_region
        go_wp2_with fail;have r0:=HTX.out.cell 0;have r1:=HTX.out.cell 1;refine bodyPost_ret (v:=.tuple #[.string (aM X),.agg #[.slice An xs.length cn,.slice Av r.ix.length cv],.bool false]) (by simp [results,Tryz.f28,go_sem,r0,r1] <;> omega) rfl ?_;exact HFIN.out false (by rw [HOK.out];rw [aaV k2,Bool.and_false])
      ·have z1:decide ((X.length:Int)≤2000)=false:=aaV (by omega);have K1:=hid k1;clear k1;go_wp2_with fail;go_region
       go_wp2_with fail;have r0:=HTX.out.cell 0;have r1:=HTX.out.cell 1;refine bodyPost_ret (v:=.tuple #[.string (aM X),.agg #[.slice An xs.length cn,.slice Av r.ix.length cv],.bool false]) (by simp [results,Tryz.f28,go_sem,r0,r1] <;> omega) rfl ?_;exact HFIN.out false (by rw [HOK.out];rw [aaV K1.out,Bool.false_and])
end Go.Proofs.YthepmkjggfijoaaGreatDoor
namespace Go.Proofs.YthepmkjggfijoaaGreatDoor
open Go.ChangeShapes Go.WideShapes Go.ChangeAt Go.RowKit Go.MapKept Go.ChangeMaps Mist
theorem add_of_addS (a:Addr)(i j:Nat):(a.add i).add j=a.add (i+j):=by
 unfold Addr.add;by_cases hi:i=0 <;> by_cases hj:j=0 <;> simp [hi,hj,Nat.add_assoc]
def u8Vals (l:Bs):List Value:=l.map fun b=>Value.int .u8 b.toNat
theorem u8Vals_len (l:Bs):(u8Vals l).length=l.length:=by simp [u8Vals]
def U8s (w:World)(v:Value)(l:Bs):Prop:=∃ A c,v=.slice A l.length c∧l.length≤c∧c≤140737488351232∧Reads w w.heap.size 1 A l.length (u8Vals l)
theorem U8s.none_ (w:World):U8s w (.slice none 0 0) []:=⟨none,0,rfl,aaJ _,aaL _,Reads.none_⟩
structure URow (w:World) (b o:Nat) (l:Bs):Prop where
 lt:b < w.heap.size
 at_:∀ k,k < l.length→w.cell? ⟨b,o+k,none⟩=some (.int .u8 (gt l k).toNat)
theorem U8s.rowA {w:World}{A:Option Addr}{n c:Nat}{l:Bs}(h:U8s w (.slice A n c) l)(h0:0 < l.length):∃ b o,A=some ⟨b,o,none⟩∧URow w b o l:=by
 obtain⟨A',c',hv,hc,_,hr⟩:=h;injection hv with hA hn hcc
 subst hA;obtain⟨ad,rfl,hlt,hcell⟩:=hr.2 h0
 have hget:∀ k,k < l.length→(u8Vals l)[k]? = some (.int .u8 (gt l k).toNat):=by
  intro k hk;simp [u8Vals,gt,hk]
 have hz:=hcell 0 _ (hget 0 h0);obtain⟨b,o,sp⟩:=ad
 have hsp:sp=none:=by
  cases sp with
  | none=>rfl
  | some x =>
   exfalso
   simp only [Addr.add,if_pos] at hz
   unfold World.cell? at hz
   simp only [Option.isSome_some,if_true] at hz
   split at hz <;> simp at hz
 subst hsp
 have hadd:∀ n,(⟨b,o,none⟩:Addr).add n=⟨b,o+n,none⟩:=by
  intro n;unfold Addr.add;split
  ·rename_i h;rw [h];rfl
  ·rfl
 refine⟨b,o,rfl,hlt,fun k hk=>?_⟩
 have:=hcell k _ (hget k hk)
 rw [hadd] at this;exact this
set_option maxRecDepth 100000
theorem seed_of_trod {H:Type}{enc:TypeId × Value→H}{W:World}{base j:Nat}{v:Value}{d:DataW H}{ps:List MemPlace}{ts:List TypeId}{ds:List (DataW H)}
  (hval:Value.okWide Tryz.prog W .any base 42 v) (h:DataW.Trod enc Tryz.prog W 0 (fun _=>true) true 42 v d ps)
  (hsz:(DataW.weightsEach Tryz.prog ts ds).all (·≤reachBytes)=true) (ht:ts[j]? = some 42) (hd:ds[j]? = some d) :
  ∃ l:Bs,U8s W v l∧l.length≤4611686018427387904:=by
 obtain⟨a0,len0,cap0,rfl⟩:=okWide_slice Tryz.underlying42 hval;obtain⟨fuel,hf⟩:=h;rcases Deep.open_slice Tryz.underlying42 hf with ⟨hcs,_⟩ | ⟨a,len,cap,m,n,D,Pl,hcs,_,hlc,hcap,hm,hx,hel⟩
 ·have:(Value.slice a0 len0 cap0)=.slice none 0 0:=by simpa [Value.cells] using hcs
  rw [this];exact⟨[],U8s.none_ W,by simp⟩
 ·have hv:(Value.slice a0 len0 cap0)=.slice (some a) len cap:=by simpa [Value.cells] using hcs
  rw [hv];have hmc:m=cap:=by simpa using hm
  have htok:∀ i,i < len→∃ b:UInt8,W.cells? 0 (a.add (i * 1)) 1=some [.int .u8 b.toNat]:=by
   intro i hi;obtain⟨cs',h1,h2⟩:=hel i (by omega);rw [Zh] at h1
   obtain⟨k,hk,hk2,hk3⟩:=DataW.trod_int Tw h2
   have hk4:0≤k∧k < 256:=by
    simp [Lit.wf,IntKind.min,IntKind.max,IntKind.signed,IntKind.bits] at hk3
    omega
   have g0:cs'=[.int .u8 k]:=by simpa using hk
   refine⟨UInt8.ofNat k.toNat,?_⟩
   rw [h1,g0,UInt8.toNat_ofNat',show ((k.toNat % 2 ^ 8:Nat):Int)=k by omega]
  obtain⟨f,hfi⟩:=Deep.choose_lt htok;have hdd:d=.slice ((List.range len).map D) ((List.range (m - len)).map fun j=>D (len+j)):=(Prod.mk.inj hx).1;have hlen:((List.range len).map f).length=len:=by simp
  have hwt:=DataW.weights_mem_each (P:=Tryz.prog) ht hd;have hall:=aaR.1 hsz
  have hcap2:cap * 1≤reachBytes:=by
   have h1:=hall (cap * 1) (hwt _ (by
    rw [hdd];simp only [DataW.weights,Tryz.underlying42,List.mem_cons];left
    have hb:Tryz.prog.bytesOf 5=1:=by kernel_rfl
    rw [hb];simp;omega))
   simpa using h1
  have hr:reachBytes=140737488351232:=rfl
  refine⟨(List.range len).map f,?_,by rw [hlen];omega⟩
  refine⟨some a,cap,by rw [hlen],by rw [hlen];exact hlc,by omega,?_⟩
  refine⟨by rw [u8Vals_len,hlen];omega,fun h0=>⟨a,rfl,?_,?_⟩⟩
  ·have h1:=hfi 0 (by omega)
   have:=World.cells?_block h1 (by omega)
   simpa [LV] using this
  ·intro q u hu
   have hq:q < len:=by
    have h1:=(aaE.1 hu).1;rw [u8Vals_len,hlen] at h1
    exact h1
   have h1:=(World.cells?_some (hfi q hq)).2.2 0 (by omega);rw [add_of_addS,show q * 1+0=q by omega] at h1
   rw [h1];rw [← hu];simp [u8Vals,hq]
theorem U8s.seed {w:World}{v:Value}{l:Bs}(h:U8s w v l):SeedIn w w.heap.size v l:=by
 obtain⟨A,c,rfl,hc,hc2,hr⟩:=id h
 refine⟨A,c,rfl,hc,by omega,fun h0=>?_⟩
 obtain⟨b,o,rfl,hR⟩:=h.rowA (by cases l with | nil=>exact absurd rfl h0 | cons=>simp);exact⟨b,o,rfl,hR.lt,hR.lt,hR.at_⟩
theorem pow_data:(Rows.laid_internal_strconv_uint64pow10:DataW Unit)=Lib.tabData IntKind.u64 Lib.pow10Tab:=by kernel_rfl
theorem pow_of_laid {l : List (String × DataW Unit)} {w : World} (h : laidMet Tryz.prog l w) (hm : ("internal/strconv.uint64pow10", Rows.laid_internal_strconv_uint64pow10) ∈ l) : Pow w := by
 rw [pow_data] at hm
 exact Lib.tabBelow_of_tabIs (PO (g:=1) (t:=191) (e:=174) (n:=20) (by kernel_rfl) (by kernel_rfl) (by kernel_rfl) (by kernel_rfl) (by kernel_rfl) (by kernel_rfl) h hm)
end Go.Proofs.YthepmkjggfijoaaGreatDoor
