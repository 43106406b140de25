/-
  A part of the proof.
-/
import Derived.Test.YthepmkjggfijoaaGreatDoorSA
import Derived.BigQuiet
import Derived.Test.YthepmkjggfijoaaGreatDoorS22
import Derived.Test.YthepmkjggfijoaaGreatDoorS32
import Derived.Test.YthepmkjggfijoaaGreatDoorJ09
set_option linter.all false
set_option maxRecDepth 100000
set_option maxHeartbeats 4000000
namespace Go.Proofs.YthepmkjggfijoaaGreatDoor
open Go.RowKit Mist
attribute [local go_sem] aj aH aS aB ak
theorem pi_ask {b:Bool}{g:Nat}{iv:Value}{w0 w:World}{s:abd}{xs:List NV}{nv lv:Value}{its:List Int}(H:Hid (abH g b iv w s xs nv lv))(f:Hid (abK w0 w xs iv its))(hw:w0.heap.size≤w.heap.size)(hg:g < w0.heap.size)(hil:its.length≤1000)(hn:s.ns.length≤100000)(V:s.nx % 7=6) :
  Calls Tryz.prog 72 #[.pointer (some ⟨g,0,none⟩)] w (ItemPost g b w0 w its (itemG b s)):=by
 obtain⟨Ai,ci,K⟩:=dh f.o.row;subst K;obtain⟨j0,L,P,Q,S⟩:=info_parts gN;have Ql:=O fun (row:Option Nat) (w':World) (m:Mv g nv.ownBlock w row w')=>H.o.low m
 have M:=O (abJ.refl (g:=g) (w:=w) (xs:=xs) (nv:=nv));have HLT:=O (cB.lt f.o.row);have hm7:Int.tmod (s.nx:Int) 7=6:=by rw [Int.tmod_eq_emod_of_nonneg (by omega)];omega
 have T:=O (show itemG0 b s=askG b (1+s.tl.tl.nx % 8) s.tl.tl.tl by unfold itemG0;simp only;rw [if_neg (by omega),if_neg (by omega),if_neg (by omega),if_neg (by omega),if_neg (by omega),if_neg (by omega)]);have J:=V;go_in
 go_wp2_with fail;refine (nxH H M).mono ?_;clear H M;rintro e w1⟨lv1,rfl,q1,H,M,R⟩
 replace f:=kp R f
 clear R;go_wp2_with fail;refine (nxH H M).mono ?_;clear H M;rintro e w2⟨lv2,rfl,q2,H,M,R⟩
 replace f:=kp R f
 clear R;go_wp2_with fail;refine (wdH (s.tl.nx) _).mono ?_;rintro e w3⟨x,rfl,Hx,lx,rfl⟩;clear V;obtain⟨q,N⟩:∃ m,m=(s.tl.tl).nx % 8:=⟨_,rfl⟩;have zq:Int.tmod ((s.tl.tl).nx:Int) 8=(q:Int):=by rw [Int.tmod_eq_emod_of_nonneg (by omega),N];omega
 have r:=O N.symm;have acy:q≤7:=by omega
 clear N;have yq:IntKind.i64.wrap (1+(q:Int))=((1+q:Nat):Int):=by rw [IntWalk.i64_in _ (by omega)];omega
 have E:=O (show trailG s=if 1+q=7 then [32] else [] from by
  unfold trailG;rw [r.o];by_cases h6:q=6
  ·rw [if_pos ⟨J,h6⟩,if_pos (by omega)]
  ·rw [if_neg (fun h=>h6 h.2),if_neg (by omega)])
 rw [r.o] at T
 go_wp2_with fail;refine (nxH H M).mono ?_;clear H M;rintro e w4⟨lv4,rfl,q4,H,M,R⟩
 replace f:=kp R f
 clear R;go_wp2_with fail;refine (akH H M (q:=1+q) (by omega) (by omega) (by omega)).mono ?_;clear H M;rintro e w5⟨l,Y,xs5,Fu,lv5,rfl,jX,HY,abT,H,M,R⟩
 replace f:=kp R f
 clear R
 have n:aN l.pc ++ trailG s=Y:=by
  rw [E.o,HY.o]
 have y:=O n;clear n;obtain⟨id,Z⟩:∃ id,Hid (l.ix=id):=⟨_,O rfl⟩;rw [Z.o];have k:=(f.o.alloc (.cells #[.int .i64 id] 3)).row;have D:=O k;have cI:=H.o.blk.cell 2;clear k;go_wp2_with (at_builtin;go_loud (refine wpList_append_lies _ rfl (.tmp 234) (.tmp 236) 24 rfl 0 3 j0 (.int .i64 0) 1 8 Tryz.underlying24 L P Q S rfl (by decide) _ its.length (intCells its) rfl D.o ⟨w5.heap.size,0,none⟩ 1 1 [.int .i64 id] rfl rfl (cell_one_new _ _ _) (by intro u W;simp at W;subst W;rfl) (by omega) (by simp only [maxLen];omega) (by omega) (aaL _) _ rfl ?_);intro gg cap Tx j i t hlt;obtain⟨C,v,F,B9⟩:=itB H M rfl Ql f hw hg j i t;have c14:=C.cell 2;have f14:=C.frozen 2;clear j i t C)
 refine (plGap_any g b _ _ (l.st) _ _ _ v.o).mono ?_;rintro e w99⟨rfl,X,h,m⟩;have H5:=O h;have L5:=O (F.o.mv v.o m);have B5:=O (B9.o.trans (v.o.low m));clear h m;have I:=gapG_len b (l.st);obtain⟨G,U⟩:∃ G,Hid (acP b (l.st)=G):=⟨_,O rfl⟩;rw [U.o] at I ⊢
 have cz0:¬ 9223372036854775807 < Y.length+G.length:=by omega
 have cz1:¬ 9223372036854775807 < Y.length+G.length+1:=by omega
 go_wp2_with fail;go_ret;exact itE (a:=l) (T.o.trans jX.o) y.o U.o Z.o (by first|(rw [← ak];rfl)|(rw [← ak,← ak];rfl)) H5.o L5.o B5.o
theorem pi_fun {f:Bool}{g:Nat}{iv:Value}{w0 w:World}{s:abd}{xs:List NV}{nv lv:Value}{its:List Int}(H:Hid (abH g f iv w s xs nv lv))(l:Hid (abK w0 w xs iv its))(hw:w0.heap.size≤w.heap.size)(hg:g < w0.heap.size)(hil:its.length≤1000)(hn:s.ns.length≤100000)(hb:s.nx % 7=2) :
  Calls Tryz.prog 72 #[.pointer (some ⟨g,0,none⟩)] w (ItemPost g f w0 w its (itemG f s)):=by
 obtain⟨Ai,ci,hiv⟩:=dh l.o.row;subst hiv;obtain⟨j0,hj0,hy0,hy1,hy2⟩:=info_parts gN;have Ql:=O fun (row:Option Nat) (w':World) (m:Mv g nv.ownBlock w row w')=>H.o.low m
 have M:=O (abJ.refl (g:=g) (w:=w) (xs:=xs) (nv:=nv));have HLT:=O (cB.lt l.o.row);obtain⟨E,HEE⟩:∃ E,Hid (acN f 4=E):=⟨_,O rfl⟩;have X:=O (x4_is f);rw [HEE.o] at X
 have hm7:Int.tmod (s.nx:Int) 7=2:=by rw [Int.tmod_eq_emod_of_nonneg (by omega)];omega
 have HB:=O (show itemG0 f s=funG f (acM s.tl.nx) s.tl.tl by unfold itemG0;simp only;rw [if_neg (by omega),if_neg (by omega),if_pos hb]);have HTR:=O (show trailG s=[] from if_neg (fun h=>by omega));go_in
 go_wp2_with fail;refine (nxH H M).mono ?_;clear H M;rintro e w1⟨lv1,rfl,q1,H,M,R⟩
 replace l:=kp R l
 clear R;go_wp2_with fail;refine (nxH H M).mono ?_;clear H M;rintro e w2⟨lv2,rfl,q2,H,M,R⟩
 replace l:=kp R l
 clear R;go_wp2_with fail;refine (wdH (s.tl.nx) _).mono ?_;rintro e w3⟨x,rfl,Hx,lx,rfl⟩;rw [Hx.o] at HB
 clear hb;obtain⟨m5,hm5⟩:∃ m,m=(s.tl.tl).nx % 5:=⟨_,rfl⟩;have zm5:Int.tmod ((s.tl.tl).nx:Int) 5=(m5:Int):=by rw [Int.tmod_eq_emod_of_nonneg (by omega),hm5];omega
 have Hm5:=O hm5.symm;have bm5:m5≤4:=by omega
 clear hm5;go_wp2_with fail;refine (nxH H M).mono ?_;clear H M;rintro e w4⟨lv4,rfl,q4,H,M,R⟩
 replace l:=kp R l
 clear R;go_wp2_with fail;refine (prH H M (m:=m5) (by omega) (by omega)).mono ?_;clear H M;rintro e w5⟨K,t,A5,c5,xs5,Fu,lv5,rfl,jX,zO,tl5,bn5,hrl5,v,H,M,R⟩
 replace l:=kp R l
 clear R;go_wp2_with fail;refine (kdH H M (by omega)).mono ?_;clear H M;rintro e w6⟨y,L,xs6,XB,lv6,rfl,ow,HT6,acz,tl6,bn6,H,M,R⟩
 replace l:=kp R l
 replace v:=kp R v
 clear R;obtain⟨q,hq⟩:∃ m,m=(y.st).nx % 12:=⟨_,rfl⟩;have zq:Int.tmod ((y.st).nx:Int) 12=(q:Int):=by rw [Int.tmod_eq_emod_of_nonneg (by omega),hq];omega
 have acu:=O hq.symm;have acy:q≤11:=by omega
 clear hq;have HUP:=O (show uptoN y.st=if 8 < q then 0 else q by unfold uptoN;rw [acu.o]);go_wp2_with fail;refine (nxH H M).mono ?_;clear H M;rintro e w7⟨lv7,rfl,q7,H,M,R⟩
 replace l:=kp R l
 replace v:=kp R v
 clear R;by_cases hq9:8 < q∨q=0
 ·have hz9:(8 < q∧(q:Int) > 8∧8 < (q:Int))∨q=0:=by omega
  rcases hz9 with ⟨z0,z1,z2⟩ | rfl
  all_goals
   have HUQ:=O (show uptoN y.st=0 by rw [HUP.o];first | rfl|(split <;> omega));go_wp2_with fail;refine (exH H M X (by omega)).mono ?_;clear H M;rintro e w8⟨J,T8,xs8,V_,lv8,rfl,zL,HT8,acA,tl8,bn8,H,M,R⟩
   replace l:=kp R l
   replace v:=kp R v
   clear R;go_wp2_with fail;refine (gpH H M).mono ?_;clear H M;rintro e w9⟨j,lv9,rfl,HG9,gl9,acs,H,M,R⟩
   replace l:=kp R l
   replace v:=kp R v
   clear R;have T:¬ 9223372036854775807 < 3+j.length:=by omega
   have W:¬ 9223372036854775807 < 3+j.length+x.length:=by omega
   have Z:¬ 9223372036854775807 < 3+j.length+x.length+1:=by omega
   have cp1_3:¬ 9223372036854775807 < 3+j.length+x.length+1+t.length:=by omega
   have cp1_4:¬ 9223372036854775807 < 3+j.length+x.length+1+t.length+1:=by omega
   go_wp2_with fail;refine (gpH H M).mono ?_;clear H M;rintro e Qv⟨D,lv10,rfl,HG10,gl10,q10,H,M,R⟩
   replace l:=kp R l
   replace v:=kp R v
   clear R;clear T W Z cp1_3 cp1_4;have cp2_0:¬ 9223372036854775807 < 3+j.length:=by omega
   have cp2_1:¬ 9223372036854775807 < 3+j.length+x.length:=by omega
   have cp2_2:¬ 9223372036854775807 < 3+j.length+x.length+1:=by omega
   have cp2_3:¬ 9223372036854775807 < 3+j.length+x.length+1+t.length:=by omega
   have cp2_4:¬ 9223372036854775807 < 3+j.length+x.length+1+t.length+1:=by omega
   have cp2_5:¬ 9223372036854775807 < 3+j.length+x.length+1+t.length+1+D.length:=by omega
   have cp2_6:¬ 9223372036854775807 < 3+j.length+x.length+1+t.length+1+D.length+1:=by omega
   have cp2_7:¬ 9223372036854775807 < 3+j.length+x.length+1+t.length+1+D.length+1+L.length:=by omega
   have cp2_8:¬ 9223372036854775807 < 3+j.length+x.length+1+t.length+1+D.length+1+L.length+0:=by omega
   go_wp2_with fail;refine (gpH H M).mono ?_;clear H M;rintro e Et⟨i,lv11,rfl,HG11,gl11,q11,H,M,R⟩
   replace l:=kp R l
   replace v:=kp R v
   clear R;clear cp2_0 cp2_1 cp2_2 cp2_3 cp2_4 cp2_5 cp2_6 cp2_7 cp2_8;have cq0:¬ 9223372036854775807 < 3+j.length:=by omega
   have cq1:¬ 9223372036854775807 < 3+j.length+x.length:=by omega
   have cq2:¬ 9223372036854775807 < 3+j.length+x.length+1:=by omega
   have cq3:¬ 9223372036854775807 < 3+j.length+x.length+1+t.length:=by omega
   have cq4:¬ 9223372036854775807 < 3+j.length+x.length+1+t.length+1:=by omega
   have cq5:¬ 9223372036854775807 < 3+j.length+x.length+1+t.length+1+D.length:=by omega
   have cq6:¬ 9223372036854775807 < 3+j.length+x.length+1+t.length+1+D.length+1:=by omega
   have cq7:¬ 9223372036854775807 < 3+j.length+x.length+1+t.length+1+D.length+1+L.length:=by omega
   have cq8:¬ 9223372036854775807 < 3+j.length+x.length+1+t.length+1+D.length+1+L.length+0:=by omega
   have cq9:¬ 9223372036854775807 < 3+j.length+x.length+1+t.length+1+D.length+1+L.length+0+i.length:=by omega
   have cq10:¬ 9223372036854775807 < 3+j.length+x.length+1+t.length+1+D.length+1+L.length+0+i.length+1:=by omega
   have cq11:¬ 9223372036854775807 < 3+j.length+x.length+1+t.length+1+D.length+1+L.length+0+i.length+1+T8.length:=by omega
   have LA:=O (v.o.alloc (.cells #[.int .i64 y.ix,.int .i64 J.ix] 3));have IA:=O (l.o.alloc (.cells #[.int .i64 y.ix,.int .i64 J.ix] 3));have HA:=O (H.o.alloc (.cells #[.int .i64 y.ix,.int .i64 J.ix] 3));have MA:=O (M.o.dD (o:=.cells #[.int .i64 y.ix,.int .i64 J.ix] 3));have hms:=MA.o.size;have hap:=O (apart_hi HLT.o v.o.lo);have P:=O fun b hb=>Nat.le_trans (aaK (aaW hg hw)) (v.o.lo b hb)
   clear v l H M;go_wp2_with (at_builtin;go_loud (refine wpList_append_lies _ rfl (.tmp 169) (.tmp 172) 24 rfl 0 3 j0 (.int .i64 0) 1 8 Tryz.underlying24 hj0 hy0 hy1 hy2 rfl (by decide) _ K.ix.length (intCells K.ix) rfl LA.o.row ⟨Et.heap.size,0,none⟩ 2 2 [.int .i64 y.ix,.int .i64 J.ix] rfl rfl (iP _ [.int .i64 y.ix,.int .i64 J.ix] _) (by intro u hu;simp at hu;rcases hu with rfl | rfl <;> rfl) (by omega) (by simp only [maxLen];omega) (by omega) (aaL _) _ rfl ?_);intro gg14 cap14 Tx C k I hlt;have v:=O (LA.o.grows (js:=[y.ix,J.ix]) HA.o C I hms);have l:=O (IA.o.keep k hap.o);have H:=O (HA.o.grow LA.o k P.o);have M:=O (MA.o.grow LA.o k);clear C k I hlt)
   clear LA IA HA MA hms hap P;obtain⟨Y,HY⟩:∃ Y:Bs,Hid ([102,117,110] ++ j ++ x ++ [40] ++ t ++ [41] ++ D ++ [58] ++ L ++ [] ++ i ++ [61] ++ T8=Y):=⟨_,O rfl⟩;rw [show (⟨#[102,117,110]⟩:ByteArray) ++ aM (j) ++ aM (x) ++ (⟨#[40]⟩:ByteArray) ++ aM (t) ++ (⟨#[41]⟩:ByteArray) ++ aM (D) ++ (⟨#[58]⟩:ByteArray) ++ aM (L) ++ (⟨#[]⟩:ByteArray) ++ aM (i) ++ (⟨#[61]⟩:ByteArray) ++ aM (T8)=aM Y from by rw [← HY.o] <;> (simp only [← ak];rfl)];have abT:Y.length≤10000000:=by rw [← HY.o];simp only [aaO,List.length_cons,List.length_nil];omega
   refine (ptL H M v (by omega)).mono ?_;clear H M;rintro e wQ⟨Dr,uL,rfl,H,M,R⟩
   replace l:=O (R.o _ _ _ HLT.o l.o)
   clear R
   have HF:=O (show funG f x s.tl.tl=acV (([],3,[102,117,110]) :: (j,1,x) :: sgn [40] :: (K.pc ++ sgn [41] :: (D,4,[58]) :: (y.pc ++ (([]:Pcs) ++ (i,4,[61]) :: J.pc)))) (acJ f (acJ f (acJ f (J.st)))) ⟨42,x,0,(K.ix ++ [y.ix,J.ix]),0⟩ from by
    unfold funG
    try simp only
    rw [Hm5.o,jX.o,ow.o,HUQ.o,if_neg (Nat.lt_irrefl 0),if_neg (Nat.lt_irrefl 0),HEE.o,zL.o,HG9.o,HG10.o,HG11.o] <;> rfl)
   have HIX:aN (([],3,[102,117,110]) :: (j,1,x) :: sgn [40] :: (K.pc ++ sgn [41] :: (D,4,[58]) :: (y.pc ++ (([]:Pcs) ++ (i,4,[61]) :: J.pc)))) ++ trailG s=Y:=by
    rw [HTR.o,List.append_nil];simp only [aN,qZ,sgn];rw [zO.o,HT6.o,HT8.o,← HY.o] <;> simp only [List.nil_append,List.append_nil,List.append_assoc,List.cons_append]
   have HIY:=O HIX;clear HIX;obtain⟨id,qP⟩:∃ id,Hid (abd.id (acJ f (acJ f (acJ f (J.st))))=id):=⟨_,O rfl⟩;rw [qP.o];have Q:=(l.o.alloc (.cells #[.int .i64 id] 3)).row;have HRW:=O Q;have cI:=H.o.blk.cell 2;clear Q;go_wp2_with (at_builtin;go_loud (refine wpList_append_lies _ rfl (.tmp 234) (.tmp 236) 24 rfl 0 3 j0 (.int .i64 0) 1 8 Tryz.underlying24 hj0 hy0 hy1 hy2 rfl (by decide) _ its.length (intCells its) rfl HRW.o ⟨wQ.heap.size,0,none⟩ 1 1 [.int .i64 id] rfl rfl (cell_one_new _ _ _) (by intro u hu;simp at hu;subst hu;rfl) (by omega) (by simp only [maxLen];omega) (by omega) (aaL _) _ rfl ?_);intro gg cap Tx C k I hlt;obtain⟨HK,H9,acv,B9⟩:=itB H M rfl Ql l hw hg C k I;have c14:=HK.cell 2;have f14:=HK.frozen 2;clear C k I HK)
   refine (plGap_any g f _ _ ((acJ f (acJ f (acJ f (J.st)))).put ⟨42,x,0,(K.ix ++ [y.ix,J.ix]),0⟩) _ _ _ H9.o).mono ?_;rintro e w99⟨rfl,lv99,h,m⟩;have H5:=O h;have L5:=O (acv.o.mv H9.o m);have B5:=O (B9.o.trans (H9.o.low m));clear h m;have gl9:=gapG_len f ((acJ f (acJ f (acJ f (J.st)))).put ⟨42,x,0,(K.ix ++ [y.ix,J.ix]),0⟩);obtain⟨G,HG⟩:∃ G,Hid (acP f ((acJ f (acJ f (acJ f (J.st)))).put ⟨42,x,0,(K.ix ++ [y.ix,J.ix]),0⟩)=G):=⟨_,O rfl⟩;rw [HG.o] at gl9 ⊢
   have cz0:¬ 9223372036854775807 < Y.length+G.length:=by omega
   have cz1:¬ 9223372036854775807 < Y.length+G.length+1:=by omega
   go_wp2_with fail;go_ret;exact itE (a:=acV (([],3,[102,117,110]) :: (j,1,x) :: sgn [40] :: (K.pc ++ sgn [41] :: (D,4,[58]) :: (y.pc ++ (([]:Pcs) ++ (i,4,[61]) :: J.pc)))) (acJ f (acJ f (acJ f (J.st)))) ⟨42,x,0,(K.ix ++ [y.ix,J.ix]),0⟩) (HB.o.trans HF.o) HIY.o HG.o qP.o (by first|(rw [← ak];rfl)|(rw [← ak,← ak];rfl)) H5.o L5.o B5.o
 ·have h8:¬ 8 < q:=fun h=>hq9 (.inl h)
  have h0:0 < q:=Nat.pos_of_ne_zero fun h=>hq9 (.inr h)
  clear hq9;have ab7:¬ (q:Int) > 8:=by omega
  have z0:(q:Int) > 0:=by omega
  have z8b:¬ 8 < (q:Int):=by omega
  have z0b:0 < (q:Int):=by omega
  have HUQ:=O (show uptoN y.st=q by rw [HUP.o,if_neg h8]);have hit:=itoa_le ⟨q,by omega⟩;simp only at hit
  go_wp2_with fail;refine (gpH H M).mono ?_;clear H M;rintro e w8⟨S,lv8,rfl,HG8,gl8,q8,H,M,R⟩
  replace l:=kp R l
  replace v:=kp R v
  clear R;go_wp2_with fail;refine (itH H M (n:=(q:Int)) (by omega) (by omega)).mono ?_;clear H M;rintro e w9⟨U,rfl,HU,H,M,R⟩
  replace l:=kp R l
  replace v:=kp R v
  clear R;rw [HU.o] at hit
  have cu0:¬ 9223372036854775807 < 5+S.length:=by omega
  have cu1:¬ 9223372036854775807 < 5+S.length+U.length:=by omega
  go_wp2_with fail;obtain⟨V,HV⟩:∃ Y:Bs,Hid ([32,117,112,116,111] ++ S ++ U=Y):=⟨_,O rfl⟩;rw [show (⟨#[32,117,112,116,111]⟩:ByteArray) ++ aM (S) ++ aM (U)=aM V from by rw [← HV.o] <;> (simp only [← ak];rfl)];have ab8:V.length≤10000000:=by rw [← HV.o];simp only [aaO,List.length_cons,List.length_nil];omega
  have lV2:V.length≤30:=by rw [← HV.o];simp only [aaO,List.length_cons,List.length_nil];omega
  refine (exH H M X (by omega)).mono ?_;clear H M;rintro e Qv⟨r,T10,xs10,nv10,lv10,rfl,vO,HT10,O10,tl10,bn10,H,M,R⟩
  replace l:=kp R l
  replace v:=kp R v
  clear R;go_wp2_with fail;refine (gpH H M).mono ?_;clear H M;rintro e Et⟨i,lv11,rfl,HG11,gl11,q11,H,M,R⟩
  replace l:=kp R l
  replace v:=kp R v
  clear R;have T:¬ 9223372036854775807 < 3+i.length:=by omega
  have W:¬ 9223372036854775807 < 3+i.length+x.length:=by omega
  have Z:¬ 9223372036854775807 < 3+i.length+x.length+1:=by omega
  have cp1_3:¬ 9223372036854775807 < 3+i.length+x.length+1+t.length:=by omega
  have cp1_4:¬ 9223372036854775807 < 3+i.length+x.length+1+t.length+1:=by omega
  go_wp2_with fail;refine (gpH H M).mono ?_;clear H M;rintro e wQ⟨F,lv12,rfl,HG12,gl12,q12,H,M,R⟩
  replace l:=kp R l
  replace v:=kp R v
  clear R;clear T W Z cp1_3 cp1_4;have cp2_0:¬ 9223372036854775807 < 3+i.length:=by omega
  have cp2_1:¬ 9223372036854775807 < 3+i.length+x.length:=by omega
  have cp2_2:¬ 9223372036854775807 < 3+i.length+x.length+1:=by omega
  have cp2_3:¬ 9223372036854775807 < 3+i.length+x.length+1+t.length:=by omega
  have cp2_4:¬ 9223372036854775807 < 3+i.length+x.length+1+t.length+1:=by omega
  have cp2_5:¬ 9223372036854775807 < 3+i.length+x.length+1+t.length+1+F.length:=by omega
  have cp2_6:¬ 9223372036854775807 < 3+i.length+x.length+1+t.length+1+F.length+1:=by omega
  have cp2_7:¬ 9223372036854775807 < 3+i.length+x.length+1+t.length+1+F.length+1+L.length:=by omega
  have cp2_8:¬ 9223372036854775807 < 3+i.length+x.length+1+t.length+1+F.length+1+L.length+V.length:=by omega
  go_wp2_with fail;refine (gpH H M).mono ?_;clear H M;rintro e w13⟨N,lv13,rfl,HG13,gl13,q13,H,M,R⟩
  replace l:=kp R l
  replace v:=kp R v
  clear R;clear cp2_0 cp2_1 cp2_2 cp2_3 cp2_4 cp2_5 cp2_6 cp2_7 cp2_8;have cq0:¬ 9223372036854775807 < 3+i.length:=by omega
  have cq1:¬ 9223372036854775807 < 3+i.length+x.length:=by omega
  have cq2:¬ 9223372036854775807 < 3+i.length+x.length+1:=by omega
  have cq3:¬ 9223372036854775807 < 3+i.length+x.length+1+t.length:=by omega
  have cq4:¬ 9223372036854775807 < 3+i.length+x.length+1+t.length+1:=by omega
  have cq5:¬ 9223372036854775807 < 3+i.length+x.length+1+t.length+1+F.length:=by omega
  have cq6:¬ 9223372036854775807 < 3+i.length+x.length+1+t.length+1+F.length+1:=by omega
  have cq7:¬ 9223372036854775807 < 3+i.length+x.length+1+t.length+1+F.length+1+L.length:=by omega
  have cq8:¬ 9223372036854775807 < 3+i.length+x.length+1+t.length+1+F.length+1+L.length+V.length:=by omega
  have cq9:¬ 9223372036854775807 < 3+i.length+x.length+1+t.length+1+F.length+1+L.length+V.length+N.length:=by omega
  have cq10:¬ 9223372036854775807 < 3+i.length+x.length+1+t.length+1+F.length+1+L.length+V.length+N.length+1:=by omega
  have cq11:¬ 9223372036854775807 < 3+i.length+x.length+1+t.length+1+F.length+1+L.length+V.length+N.length+1+T10.length:=by omega
  have LA:=O (v.o.alloc (.cells #[.int .i64 y.ix,.int .i64 r.ix] 3));have IA:=O (l.o.alloc (.cells #[.int .i64 y.ix,.int .i64 r.ix] 3));have HA:=O (H.o.alloc (.cells #[.int .i64 y.ix,.int .i64 r.ix] 3));have MA:=O (M.o.dD (o:=.cells #[.int .i64 y.ix,.int .i64 r.ix] 3));have hms:=MA.o.size;have hap:=O (apart_hi HLT.o v.o.lo);have P:=O fun b hb=>Nat.le_trans (aaK (aaW hg hw)) (v.o.lo b hb)
  clear v l H M;go_wp2_with (at_builtin;go_loud (refine wpList_append_lies _ rfl (.tmp 169) (.tmp 172) 24 rfl 0 3 j0 (.int .i64 0) 1 8 Tryz.underlying24 hj0 hy0 hy1 hy2 rfl (by decide) _ K.ix.length (intCells K.ix) rfl LA.o.row ⟨w13.heap.size,0,none⟩ 2 2 [.int .i64 y.ix,.int .i64 r.ix] rfl rfl (iP _ [.int .i64 y.ix,.int .i64 r.ix] _) (by intro u hu;simp at hu;rcases hu with rfl | rfl <;> rfl) (by omega) (by simp only [maxLen];omega) (by omega) (aaL _) _ rfl ?_);intro gg14 cap14 Tx C k I hlt;have v:=O (LA.o.grows (js:=[y.ix,r.ix]) HA.o C I hms);have l:=O (IA.o.keep k hap.o);have H:=O (HA.o.grow LA.o k P.o);have M:=O (MA.o.grow LA.o k);clear C k I hlt)
  clear LA IA HA MA hms hap P;obtain⟨Y,HY⟩:∃ Y:Bs,Hid ([102,117,110] ++ i ++ x ++ [40] ++ t ++ [41] ++ F ++ [58] ++ L ++ V ++ N ++ [61] ++ T10=Y):=⟨_,O rfl⟩;rw [show (⟨#[102,117,110]⟩:ByteArray) ++ aM (i) ++ aM (x) ++ (⟨#[40]⟩:ByteArray) ++ aM (t) ++ (⟨#[41]⟩:ByteArray) ++ aM (F) ++ (⟨#[58]⟩:ByteArray) ++ aM (L) ++ aM (V) ++ aM (N) ++ (⟨#[61]⟩:ByteArray) ++ aM (T10)=aM Y from by rw [← HY.o] <;> (simp only [← ak];rfl)];have abT:Y.length≤10000000:=by rw [← HY.o];simp only [aaO,List.length_cons,List.length_nil];omega
  refine (ptL H M v (by omega)).mono ?_;clear H M;rintro e Tx⟨xs14,nv14,rfl,H,M,R⟩
  replace l:=O (R.o _ _ _ HLT.o l.o)
  clear R
  have HF:=O (show funG f x s.tl.tl=acV (([],3,[102,117,110]) :: (i,1,x) :: sgn [40] :: (K.pc ++ sgn [41] :: (F,4,[58]) :: (y.pc ++ ([([32],3,[117,112,116,111]),(S,2,U)] ++ (N,4,[61]) :: r.pc)))) (acJ f (acJ f (acJ f (r.st)))) ⟨42,x,(q:Int),(K.ix ++ [y.ix,r.ix]),0⟩ from by
   unfold funG
   try simp only
   rw [Hm5.o,jX.o,ow.o,HUQ.o,if_pos h0,if_pos h0,HG8.o,HU.o,HEE.o,vO.o,HG11.o,HG12.o,HG13.o] <;> rfl)
  have HIX:aN (([],3,[102,117,110]) :: (i,1,x) :: sgn [40] :: (K.pc ++ sgn [41] :: (F,4,[58]) :: (y.pc ++ ([([32],3,[117,112,116,111]),(S,2,U)] ++ (N,4,[61]) :: r.pc)))) ++ trailG s=Y:=by
   rw [HTR.o,List.append_nil];simp only [aN,qZ,sgn];rw [zO.o,HT6.o,HT10.o,← HY.o,← HV.o] <;> simp only [List.nil_append,List.append_nil,List.append_assoc,List.cons_append]
  have HIY:=O HIX;clear HIX;obtain⟨id,qP⟩:∃ id,Hid (abd.id (acJ f (acJ f (acJ f (r.st))))=id):=⟨_,O rfl⟩;rw [qP.o];have Q:=(l.o.alloc (.cells #[.int .i64 id] 3)).row;have HRW:=O Q;have cI:=H.o.blk.cell 2;clear Q;go_wp2_with (at_builtin;go_loud (refine wpList_append_lies _ rfl (.tmp 234) (.tmp 236) 24 rfl 0 3 j0 (.int .i64 0) 1 8 Tryz.underlying24 hj0 hy0 hy1 hy2 rfl (by decide) _ its.length (intCells its) rfl HRW.o ⟨Tx.heap.size,0,none⟩ 1 1 [.int .i64 id] rfl rfl (cell_one_new _ _ _) (by intro u hu;simp at hu;subst hu;rfl) (by omega) (by simp only [maxLen];omega) (by omega) (aaL _) _ rfl ?_);intro gg cap Tx C k I hlt;obtain⟨HK,H9,acv,B9⟩:=itB H M rfl Ql l hw hg C k I;have c14:=HK.cell 2;have f14:=HK.frozen 2;clear C k I HK)
  refine (plGap_any g f _ _ ((acJ f (acJ f (acJ f (r.st)))).put ⟨42,x,(q:Int),(K.ix ++ [y.ix,r.ix]),0⟩) _ _ _ H9.o).mono ?_;rintro e w99⟨rfl,lv99,h,m⟩;have H5:=O h;have L5:=O (acv.o.mv H9.o m);have B5:=O (B9.o.trans (H9.o.low m));clear h m;have gl9:=gapG_len f ((acJ f (acJ f (acJ f (r.st)))).put ⟨42,x,(q:Int),(K.ix ++ [y.ix,r.ix]),0⟩);obtain⟨G,HG⟩:∃ G,Hid (acP f ((acJ f (acJ f (acJ f (r.st)))).put ⟨42,x,(q:Int),(K.ix ++ [y.ix,r.ix]),0⟩)=G):=⟨_,O rfl⟩;rw [HG.o] at gl9 ⊢
  have cz0:¬ 9223372036854775807 < Y.length+G.length:=by omega
  have cz1:¬ 9223372036854775807 < Y.length+G.length+1:=by omega
  go_wp2_with fail;go_ret;exact itE (a:=acV (([],3,[102,117,110]) :: (i,1,x) :: sgn [40] :: (K.pc ++ sgn [41] :: (F,4,[58]) :: (y.pc ++ ([([32],3,[117,112,116,111]),(S,2,U)] ++ (N,4,[61]) :: r.pc)))) (acJ f (acJ f (acJ f (r.st)))) ⟨42,x,(q:Int),(K.ix ++ [y.ix,r.ix]),0⟩) (HB.o.trans HF.o) HIY.o HG.o qP.o (by first|(rw [← ak];rfl)|(rw [← ak,← ak];rfl)) H5.o L5.o B5.o
end Go.Proofs.YthepmkjggfijoaaGreatDoor
namespace Go.Proofs.YthepmkjggfijoaaGreatDoor
open Go.RowKit Mist
theorem pl_item (e:Bool)(g:Nat)(iv:Value)(w0 w:World)(s:abd)(xs:List NV)(nv lv:Value)(its:List Int)(h:abH g e iv w s xs nv lv)(f:abK w0 w xs iv its)(k:w0.heap.size≤w.heap.size)(i:g < w0.heap.size)(a:its.length≤1000)(j:s.ns.length≤100000) :
  Calls Tryz.prog 72 #[.pointer (some ⟨g,0,none⟩)] w (ItemPost g e w0 w its (itemG e s)):=by
 have h7:s.nx % 7 < 7:=Nat.mod_lt _ (by decide);obtain b | b | b | b | b | b | b:s.nx % 7=0∨s.nx % 7=1∨s.nx % 7=2∨s.nx % 7=3∨s.nx % 7=4∨s.nx % 7=5∨s.nx % 7=6:=by omega
 ·exact pi_choose (O h) (O f) k i a j b
 ·exact pi_type (O h) (O f) k i a j b
 ·exact pi_fun (O h) (O f) k i a j b
 ·exact pi_letI (O h) (O f) k i a j b
 ·exact pi_observe (O h) (O f) k i a j b
 ·exact pi_retract (O h) (O f) k i a j b
 ·exact pi_ask (O h) (O f) k i a j b
end Go.Proofs.YthepmkjggfijoaaGreatDoor
namespace Go.Proofs.YthepmkjggfijoaaGreatDoor
open Go.RowKit Mist
attribute [local go_sem] aj aH aS aB ak
def gtxt (r:aa'):Bs:=aN r.pc ++ (if r.ix=[] then [] else [10])
theorem grow_left (a:Bool)(m:Nat){r:aa'}(h:r.st.left=[]):growG a m r=r:=by
 cases m with
 | zero=>rfl
 | succ m=>rw [growG,if_pos h]
def growStep (wild:Bool)(r:aa'):aa':=⟨r.pc ++ (if r.ix=[] then (itemG wild r.st).pc else Pcs.on [10] (itemG wild r.st).pc),r.ix ++ [(itemG wild r.st).ix],(itemG wild r.st).st⟩
theorem grow_more (a:Bool)(m:Nat){r:aa'}(h:r.st.left ≠ []):growG a (m+1) r=growG a m (growStep a r):=by
 rw [growG,if_neg h];rfl
theorem step_text (a:Bool)(r:aa')(h:r.ix=[]→r.pc=[]):gtxt (growStep a r)=gtxt r ++ (aN (itemG a r.st).pc ++ [10]):=by
 have b:=(item_good a r.st).2
 show aN (r.pc ++ (if r.ix=[] then (itemG a r.st).pc else Pcs.on [10] (itemG a r.st).pc)) ++ (if r.ix ++ [(itemG a r.st).ix]=[] then [] else [10])=aN r.pc ++ (if r.ix=[] then [] else [10]) ++ (aN (itemG a r.st).pc ++ [10])
 have e:¬ (r.ix ++ [(itemG a r.st).ix]=[]):=by simp
 rw [if_neg e,qZ];by_cases h0:r.ix=[]
 ·rw [if_pos h0,if_pos h0,h h0];simp only [aN,List.nil_append,List.append_nil,List.append_assoc]
 ·rw [if_neg h0,if_neg h0,b.text];simp only [List.append_assoc]
theorem step_len (a:Bool)(r:aa')(h:r.ix=[]→r.pc=[]):(gtxt (growStep a r)).length≤(gtxt r).length+12001∧(growStep a r).st.ns.length≤r.st.ns.length+900:=by
 obtain⟨h1,h2⟩:=itemG_bd a r.st
 refine⟨?_,h2⟩
 rw [step_text a r h,aaO,aaO];have h1:(aN (itemG a r.st).pc).length≤12000:=h1
 show _+(_+1)≤_
 omega
def cntB (t:Bs):Nat:=(t.filter fun b=>!(b == 32) && !(b == 10)).length
theorem cntB_le (t:Bs):cntB t≤t.length:=List.length_filter_le _ _
theorem cntB_step {t:Bs}{k:Nat}(e:k < t.length):cntB (t.take (k+1))=cntB (t.take k)+if (gt t k == 32 || gt t k == 10)=true then 0 else 1:=by
 have a:t[k]? = some (gt t k):=by unfold gt;rw [aaH,aaD e];rfl
 unfold cntB;rw [List.take_add_one,a,List.filter_append,aaO]
 generalize gt t k=b
 show _+(List.filter _ [b]).length=_
 cases h1:b == 32 <;> cases h2:b == 10 <;> simp [h1,h2]
theorem grownText_is (a:Bool)(b:Bs):grownText a b=gtxt (grown a b):=rfl
theorem cnt_eq (b:UInt8):(if (b == 32 || b == 10)=true then 0 else 1)=if b.toNat=32∨b.toNat=10 then 0 else 1:=by
 have e:∀ k:UInt8,(b == k)=decide (b.toNat=k.toNat):=fun k=>by
  by_cases h:b=k
  ·subst h;simp
  ·have h2:¬ b.toNat=k.toNat:=fun a=>h (UInt8.toNat_inj.1 a)
   rw [aaV h2];simpa using h
 rw [e 32,e 10];have h1:(32:UInt8).toNat=32:=rfl;have h2:(10:UInt8).toNat=10:=rfl;rw [h1,h2];simp
theorem SeedIn.up {w:World}{g g':Nat}{lv:Value}{l:Bs}(h:SeedIn w g lv l)(i:g≤g'):SeedIn w g' lv l:=by
 obtain⟨A,c,rfl,e,a,f⟩:=h
 refine⟨A,c,rfl,e,a,fun h0=>?_⟩
 obtain⟨b,o,rfl,h1,h2,h3⟩:=f h0;exact⟨b,o,rfl,by omega,h2,h3⟩
def Pow (w : World) : Prop := Lib.TabBelow Tryz.prog w.heap.size w "internal/strconv.uint64pow10" .u64 Lib.pow10Tab
def TreeRow (w:World)(A B:Option Addr)(xs:List NV)(its:List Int):Prop:=(∀ x ∈ xs,x.1.kids.length≤1000000)→mq w A B xs its
structure GRows (w:World) (A B:Option Addr) (c d:Nat) (xs:List NV) (its:List Int):Prop where
 own:∃ g,w.ownsRow g 50 5 (.slice A xs.length c) xs.length (iO xs)
 kids:∀ x ∈ xs,cB w x.2 x.1.kids
 row:cB w (.slice B its.length d) its
section
variable {w w':World} {A B:Option Addr} {c d:Nat} {xs:List NV} {its:List Int}
theorem GRows.set (h:GRows w A B c d xs its){tb:Nat}{cs:Array Value}(a:aC w tb 26 cs)(i:Nat)(u:Value):GRows (w.setCell ⟨tb,i,none⟩ u) A B c d xs its:=by
 obtain⟨g,b⟩:=h.own;exact⟨⟨g,ownsRow_setCell_other b (aT b a (by decide)) u⟩,fun x e=>ownsRow_setCell_other (h.kids x e) (aT (h.kids x e) a (by decide)) u,ownsRow_setCell_other h.row (aT h.row a (by decide)) u⟩
theorem GRows.below (h:GRows w A B c d xs its)(a:Below w.heap.size w w'):GRows w' A B c d xs its:=by
 obtain⟨g,b⟩:=h.own;exact⟨⟨g,own_below b a⟩,fun x e=>own_below (h.kids x e) a,own_below h.row a⟩
theorem GRows.tree (h:GRows w A B c d xs its):TreeRow w A B xs its:=fun b=>by
 obtain⟨g,i⟩:=h.own
 refine⟨fun h0=>?_,yI h.row rfl⟩
 obtain⟨a,e,f⟩:=Ee i h0 (fun x j=>⟨_,h.kids x j⟩) b;exact⟨a,0,e,f⟩
theorem abH.rows {g:Nat}{a:Bool}{iv lv:Value}{w0:World}{s:abd}(h:abH g a iv w s xs (.slice A xs.length c) lv)(b:abK w0 w xs (.slice B its.length d) its):GRows w A B c d xs its:=⟨⟨g,h.own⟩,h.kids,b.row⟩
end
def GrowPost (wild:Bool)(zA:Bs)(w:World)(e:Ending)(w':World):Prop :=
 Below w.heap.size w w'∧∃ A B c d xs,e=.returned (.tuple #[.string (aM (grownText wild zA)),.agg #[.slice A xs.length c,.slice B (grown wild zA).ix.length d],.bool (grownOk (grownText wild zA))]) ∧
  aA xs=(grown wild zA).st.ns∧TreeRow w' A B xs (grown wild zA).ix
theorem below_two {w a w':World}{g:Nat}(h1:Below w.heap.size w a)(h2:Below g a w')(b:w.heap.size≤g):Below w.heap.size w w':=h1.trans (h2.mono b)
theorem grow_any (f:Bool)(q:Bs)(lv0:Value)(w:World)(hP:Pow w)(hS:SeedIn w w.heap.size lv0 q) :
  Calls Tryz.prog 28 #[lv0,.bool f] w (GrowPost f q w):=by
 obtain⟨P,G,rfl,_⟩:=id hS;have N:Below w.heap.size w ((w.alloc (.cells #[.slice none 0 0,.slice none 0 0] 26)).alloc (.cells #[.slice P q.length G,.slice none 0 0,.slice none 0 0,.bool f] 81)):=ah (ah (Below.refl _ _) (aaJ _)) (by simp)
 have K:=O (show abH (w.heap.size+1) f (.slice none 0 0) ((w.alloc (.cells #[.slice none 0 0,.slice none 0 0] 26)).alloc (.cells #[.slice P q.length G,.slice none 0 0,.slice none 0 0,.bool f] 81)) ⟨q,[]⟩ [] (.slice none 0 0) (.slice P q.length G) from
  ⟨dL (W:=w.alloc (.cells #[.slice none 0 0,.slice none 0 0] 26)) (by simp),(hS.below N (aaJ _)).up (by omega),World.ownsRow_nil _ _ _ _,(fun x hx=>nomatch hx),rfl,fun w2 U=>hP w2 (N.trans (U.mono (by omega)))⟩)
 have rE:=O ((aC.new w 26 #[.slice none 0 0,.slice none 0 0]).alloc (.cells #[.slice P q.length G,.slice none 0 0,.slice none 0 0,.bool f] 81));have TL:=O (abK.nil ((w.alloc (.cells #[.slice none 0 0,.slice none 0 0] 26)).alloc (.cells #[.slice P q.length G,.slice none 0 0,.slice none 0 0,.bool f] 81)) ((w.alloc (.cells #[.slice none 0 0,.slice none 0 0] 26)).alloc (.cells #[.slice P q.length G,.slice none 0 0,.slice none 0 0,.bool f] 81)) []);have EZ:=O N;clear N hS hP;go_in
 go_wp2_with fail;obtain⟨g,hg⟩:∃ g,g=w.heap.size+1:=⟨_,rfl⟩;rw [← hg] at K ⊢
 have hg1:w.heap.size < g:=by omega
 have hsz:g < ((w.alloc (.cells #[.slice none 0 0,.slice none 0 0] 26)).alloc (.cells #[.slice P q.length G,.slice none 0 0,.slice none 0 0,.bool f] 81)).heap.size:=by simp;omega
 clear hg
 generalize (w.alloc (.cells #[.slice none 0 0,.slice none 0 0] 26)).alloc (.cells #[.slice P q.length G,.slice none 0 0,.slice none 0 0,.bool f] 81)=w2 at K rE TL EZ hsz ⊢
 go_loopw [8,9] (fun sv i wr=>∃ (k:Nat) (r:aa') (X:Bs) (iv nv lv:Value) (xs:List NV),k≤12∧i=.int .i64 k∧sv=.string (aM X)∧Hid (X=gtxt r)∧Hid (growG f (12 - k) r=grown f q)∧Hid (r.ix=[]→r.pc=[])∧r.ix.length≤k∧X.length≤k * 12001∧r.st.ns.length≤k * 900∧Hid (abH g f iv wr r.st xs nv lv)∧Hid (abK w2 wr xs iv r.ix)∧Hid (Below g w2 wr)) (fun _ i _=>12 - (intOf i).toNat)
 case atStart=>exact⟨0,⟨[],[],⟨q,[]⟩⟩,[],_,_,_,[],aaL _,rfl,rfl,O rfl,O rfl,O fun _=>rfl,aaJ _,aaJ _,aaJ _,K,TL,O (Below.refl _ _)⟩
 case round =>
  clear K TL;obtain⟨wo,rfl⟩:∃ wo:World,wo=wr:=⟨_,rfl⟩;obtain⟨k,r,X,iv,nv,lv,xs,hk,rfl,rfl,HX,HR,HN,hil,hXl,hnl,H,L,HB⟩:=hrel;have hws:=HB.o.size;obtain⟨A1,c1,rfl,_⟩:=id H.o.seed;have G:=H.o.blk.cell 0;obtain⟨n,hn⟩:∃ n,n=r.st.left.length:=⟨_,rfl⟩;rw [← hn] at G H
  by_cases hgo:k < 12∧0 < n
  ·obtain⟨h12,hn0⟩:=hgo;have hne:r.st.left ≠ []:=fun h=>by rw [h] at hn;simp at hn;omega
   obtain⟨mm,hmm⟩:∃ mm,12 - k=mm+1:=⟨12 - k - 1,by omega⟩;have S:=HR.o;rw [hmm,grow_more f mm hne] at S
   have HRR:=O S;have U1:=O (show 12 - (k+1)=mm by omega);have HSL:=O (step_len f r HN.o);have HST:=O (step_text f r HN.o);have z12:(k:Int) < 12:=by omega
   have zn:(0:Int) < (n:Int):=by omega
   have V:=(itemG_bd f r.st).1;obtain⟨a,ha⟩:∃ a,a=itemG f r.st:=⟨_,rfl⟩;have HA:=O ha;clear hne hmm S ha hn;rw [← HA.o] at V
   go_wp2_with fail;refine (pl_item f g iv w2 _ r.st xs nv _ r.ix H.o L.o hws hsz (by omega) (by omega)).mono ?_;rintro e w3⟨rfl,AY,xs',eO,lv',h,l,b⟩;rw [← HA.o] at h l ⊢
   have H3:=O h;have L3:=O l;have B3:=O (HB.o.trans b);clear h l b H L HB;obtain⟨T,hT⟩:∃ T,T=aN a.pc:=⟨_,rfl⟩;have hTl:T.length≤12000:=by rw [hT];exact V
   rw [← hT];have HT:=O hT;clear hT V;have q0:¬ 9223372036854775807 < T.length+1:=by omega
   have q1:¬ 9223372036854775807 < X.length+(T.length+1):=by omega
   go_wp2_with fail;have HXN:=O (show X ++ (T ++ [10])=gtxt (growStep f r) by rw [HST.o,HX.o,HT.o,HA.o])
   refine⟨⟨k+1,growStep f r,X ++ (T ++ [10]),_,_,_,_,by omega,by go_num,?_,HXN,O (by rw [U1.o];exact HRR.o),O fun h=>by simp [growStep] at h,by show (r.ix ++ [_]).length≤_;rw [aaO];exact Nat.add_le_add_right hil 1,by simp only [aaO,List.length_cons,List.length_nil];omega,by have:=HSL.o.2;omega,by show Hid (abH g f AY w3 (itemG f r.st).st xs' eO lv');rw [← HA.o];exact H3,by show Hid (abK w2 w3 xs' AY (r.ix ++ [(itemG f r.st).ix]));rw [← HA.o];exact L3,B3⟩,by simp [intOf];omega⟩
   refine congrArg Value.string ?_;rw [← ak,← ak];rfl
  ·have Q:growG f (12 - k) r=r:=by
    by_cases h12:k < 12
    ·exact grow_left f _ (List.eq_nil_of_length_eq_zero (by omega))
    ·rw [show 12 - k=0 by omega];rfl
   have HE:=O (show r=grown f q by rw [← HR.o,Q]);clear Q HR hn
   have hcond:(decide ((k:Int) < 12) && decide ((0:Int) < (n:Int)))=false:=by
    rcases Nat.lt_or_ge k 12 with h | h
    ·rw [aaV (by omega:¬ (0:Int) < (n:Int)),Bool.and_false]
    ·rw [aaV (by omega:¬ (k:Int) < 12),Bool.false_and]
   have hX5:X.length≤200000:=by omega
   have HXE:=O (show X=grownText f q by rw [grownText_is,← HE.o,HX.o]);have HIX:=O (show r.ix=(grown f q).ix by rw [← HE.o]);have rC:=O (show r.st.ns=(grown f q).st.ns by rw [← HE.o]);obtain⟨F,I,rfl⟩:=dh H.o.own;obtain⟨J,M,rfl⟩:=dh L.o.row;have hgb:g < wo.heap.size:=H.o.lt;have h12:((k:Int) < 12∧¬ (0:Int) < (n:Int))∨¬ (k:Int) < 12:=by omega
   rcases h12 with ⟨z12,zn⟩ | z12
   all_goals
    go_wp2_with fail;go_loopw [10,11] (fun t i wq=>∃ j:Nat,j≤X.length∧i=.int .i64 j∧t=.int .i64 (cntB (X.take j))∧wq=wo) (fun _ i _=>X.length - (intOf i).toNat)
    case atStart=>exact⟨0,aaL _,rfl,by simp [cntB],rfl⟩
    case round =>
     obtain⟨j,hj,rfl,rfl,rfl⟩:=hrel;by_cases hlt:j < X.length
     ·obtain⟨b,U⟩:∃ b,b=gt X j:=⟨_,rfl⟩;have m:=cntB_step hlt;have Y:=cntB_le (X.take j);have hcl2:(X.take j).length≤X.length:=by rw [List.length_take];omega
      rw [← U,cnt_eq] at m
      obtain⟨u,Z⟩:∃ u,u=cntB (X.take j):=⟨_,rfl⟩;rw [← Z] at m Y ⊢
      have hbg:gt X j=b:=U.symm;have z0:(0:Int)≤(j:Int):=by omega
      have z1:(j:Int) < (X.length:Int):=by omega
      obtain⟨v,hv⟩:∃ v,v=b.toNat:=⟨_,rfl⟩;rw [← hv] at m
      have hbv:(gt X j).toNat=v:=by rw [hbg,hv]
      clear U Z hbg hv;have hul:u≤200000:=by omega
      by_cases e32:v=32
      ·subst e32;rw [if_pos (.inl rfl)] at m
       have D:=O m;clear m;go_wp2_with fail;exact⟨⟨j+1,by omega,by go_num,by rw [D.o];go_num,trivial⟩,by simp [intOf];omega⟩
      have z32:((v:Int) != 32)=true:=by simp;omega
      by_cases e10:v=10
      ·subst e10;rw [if_pos (.inr rfl)] at m
       have D:=O m;clear m;go_wp2_with fail;exact⟨⟨j+1,by omega,by go_num,by rw [D.o];go_num,trivial⟩,by simp [intOf];omega⟩
      have z10:((v:Int) != 10)=true:=by simp;omega
      rw [if_neg (by omega)] at m
      have D:=O m;clear m;go_wp2_with fail;exact⟨⟨j+1,by omega,by go_num,by rw [D.o];go_num,trivial⟩,by simp [intOf];omega⟩
     ·obtain rfl:j=X.length:=by omega
      rw [List.take_length];have Y:=cntB_le X;obtain⟨u,Z⟩:∃ u,u=cntB X:=⟨_,rfl⟩;rw [← Z] at Y ⊢
      have R:=O (show grownOk X=(decide (X.length≤2000) && decide (u≤800)) by rw [Z];rfl);clear Z;have d1:=H.o.blk.cell 1;have d2:=H.o.blk.cell 2;have y:=O (rE.o.below HB.o hg1);have e0:=y.o.cell 0;have e1:=y.o.cell 1;have f0:=y.o.frozen 0;have f1:=y.o.frozen 1;have C:=O ((((y.o.d_ 0 (.slice F xs.length I)).d_ 1 (.slice J r.ix.length M))).below (Below.drew (Below.refl ((wr.setCell ⟨w.heap.size,0,none⟩ (.slice F xs.length I)).setCell ⟨w.heap.size,1,none⟩ (.slice J r.ix.length M)).heap.size _)) (by have:=y.o.lt;simpa using this));have HGR:=O ((((H.o.rows L.o).set y.o 0 (.slice F xs.length I)).set (y.o.d_ 0 (.slice F xs.length I)) 1 (.slice J r.ix.length M)).below (Below.drew (Below.refl _ _)));have HBB:=O (Below.drew (dx (b:=w.heap.size) (i:=1) (u:=.slice J r.ix.length M) (dx (b:=w.heap.size) (i:=0) (u:=.slice F xs.length I) (below_two EZ.o HB.o (by omega)) (aaJ _)) (aaJ _)));have E:=O fun (b:Bool) (U:grownOk X=b)=>(show GrowPost f q w (.returned (.tuple #[.string (aM X),.agg #[.slice F xs.length I,.slice J r.ix.length M],.bool b])) _ from ⟨HBB.o,F,J,I,M,xs,by rw [← HXE.o,← HIX.o,U],by rw [← rC.o];exact H.o.ns,by rw [← HIX.o];exact HGR.o.tree⟩)
      by_cases k1:X.length≤2000
      ·have z1:(X.length:Int)≤2000:=by omega
       by_cases k2:u≤800
       ·have z2:(u:Int)≤800:=by omega
        go_wp2_with fail;go_region
        go_wp2_with fail;have r0:=C.o.cell 0;have r1:=C.o.cell 1;refine bodyPost_ret (v:=.tuple #[.string (aM X),.agg #[.slice F xs.length I,.slice J r.ix.length M],.bool true]) (by simp [results,Tryz.f28,go_sem,r0,r1] <;> omega) rfl ?_;exact E.o true (by rw [R.o];rw [aaU k1,aaU k2];rfl)
       ·have z2:¬ (u:Int)≤800:=by omega
        go_wp2_with fail;go_region
        go_wp2_with fail;have r0:=C.o.cell 0;have r1:=C.o.cell 1;refine bodyPost_ret (v:=.tuple #[.string (aM X),.agg #[.slice F xs.length I,.slice J r.ix.length M],.bool false]) (by simp [results,Tryz.f28,go_sem,r0,r1] <;> omega) rfl ?_;exact E.o false (by rw [R.o];rw [aaV k2,Bool.and_false])
      ·have z1:decide ((X.length:Int)≤2000)=false:=aaV (by omega);have K1:=O k1;clear k1;go_wp2_with fail;go_region
       go_wp2_with fail;have r0:=C.o.cell 0;have r1:=C.o.cell 1;refine bodyPost_ret (v:=.tuple #[.string (aM X),.agg #[.slice F xs.length I,.slice J r.ix.length M],.bool false]) (by simp [results,Tryz.f28,go_sem,r0,r1] <;> omega) rfl ?_;exact E.o false (by rw [R.o];rw [aaV K1.o,Bool.false_and])
end Go.Proofs.YthepmkjggfijoaaGreatDoor
namespace Go.Proofs.YthepmkjggfijoaaGreatDoor
open Go.ChangeShapes Go.WideShapes Go.ChangeAt Go.RowKit Go.MapKept Go.ChangeMaps Mist
theorem add_of_addS (a:Addr)(i j:Nat):(a.add i).add j=a.add (i+j):=by
 unfold Addr.add;by_cases hi:i=0 <;> by_cases b:j=0 <;> simp [hi,b,Nat.add_assoc]
def u8Vals (l:Bs):List Value:=l.map fun b=>Value.int .u8 b.toNat
theorem u8Vals_len (l:Bs):(u8Vals l).length=l.length:=by simp [u8Vals]
def U8s (w:World)(v:Value)(l:Bs):Prop:=∃ A c,v=.slice A l.length c∧l.length≤c∧c≤140737488351232∧Reads w w.heap.size 1 A l.length (u8Vals l)
theorem U8s.none_ (w:World):U8s w (.slice none 0 0) []:=⟨none,0,rfl,aaJ _,aaL _,Reads.none_⟩
structure URow (w:World) (b o:Nat) (l:Bs):Prop where
 lt:b < w.heap.size
 at_:∀ k,k < l.length→w.cell? ⟨b,o+k,none⟩=some (.int .u8 (gt l k).toNat)
theorem U8s.rowA {w:World}{A:Option Addr}{n c:Nat}{l:Bs}(h:U8s w (.slice A n c) l)(h0:0 < l.length):∃ b o,A=some ⟨b,o,none⟩∧URow w b o l:=by
 obtain⟨A',v,hv,y,_,u⟩:=h;injection hv with r C t
 subst r;obtain⟨ad,rfl,j,a⟩:=u.2 h0
 have e:∀ k,k < l.length→(u8Vals l)[k]? = some (.int .u8 (gt l k).toNat):=by
  intro k i;simp [u8Vals,gt,i]
 have g:=a 0 _ (e 0 h0);obtain⟨b,o,q⟩:=ad
 have m:q=none:=by
  cases q with
  | none=>rfl
  | some x =>
   exfalso
   simp only [Addr.add,if_pos] at g
   unfold World.cell? at g
   simp only [Option.isSome_some,if_true] at g
   split at g <;> simp at g
 subst m
 have f:∀ n,(⟨b,o,none⟩:Addr).add n=⟨b,o+n,none⟩:=by
  intro n;unfold Addr.add;split
  ·rename_i h;rw [h];rfl
  ·rfl
 refine⟨b,o,rfl,j,fun k i=>?_⟩
 have:=a k _ (e k i)
 rw [f] at this;exact this
set_option maxRecDepth 100000
theorem seed_of_trod {H:Type}{enc:TypeId × Value→H}{W:World}{base j:Nat}{v:Value}{d:DataW H}{ps:List MemPlace}{V:List TypeId}{Q:List (DataW H)}
  (E:Value.okWide Tryz.prog W .any base 42 v) (h:DataW.Trod enc Tryz.prog W 0 (fun _=>true) true 42 v d ps)
  (L:(DataW.weightsEach Tryz.prog V Q).all (·≤reachBytes)=true) (ht:V[j]? = some 42) (hd:Q[j]? = some d) :
  ∃ l:Bs,U8s W v l∧l.length≤4611686018427387904:=by
 obtain⟨N,r,g,rfl⟩:=okWide_slice Tryz.underlying42 E;obtain⟨R,Z⟩:=h;rcases Deep.open_slice Tryz.underlying42 Z with ⟨t,_⟩ | ⟨a,len,cap,m,n,D,Pl,t,_,K,S,hm,hx,I⟩
 ·have:(Value.slice N r g)=.slice none 0 0:=by simpa [Value.cells] using t
  rw [this];exact⟨[],U8s.none_ W,by simp⟩
 ·have hv:(Value.slice N r g)=.slice (some a) len cap:=by simpa [Value.cells] using t
  rw [hv];have hmc:m=cap:=by simpa using hm
  have C:∀ i,i < len→∃ b:UInt8,W.cells? 0 (a.add (i * 1)) 1=some [.int .u8 b.toNat]:=by
   intro i hi;obtain⟨cs',h1,h2⟩:=I i (by omega);rw [Zh] at h1
   obtain⟨k,hk,hk2,J⟩:=DataW.trod_int Tw h2
   have hk4:0≤k∧k < 256:=by
    simp [Lit.wf,IntKind.min,IntKind.max,IntKind.signed,IntKind.bits] at J
    omega
   have X:cs'=[.int .u8 k]:=by simpa using hk
   refine⟨UInt8.ofNat k.toNat,?_⟩
   rw [h1,X,UInt8.toNat_ofNat',show ((k.toNat % 2 ^ 8:Nat):Int)=k by omega]
  obtain⟨f,y⟩:=Deep.choose_lt C;have G:d=.slice ((List.range len).map D) ((List.range (m - len)).map fun j=>D (len+j)):=(Prod.mk.inj hx).1;have e:((List.range len).map f).length=len:=by simp
  have M:=DataW.weights_mem_each (P:=Tryz.prog) ht hd;have x:=aaR.1 L
  have F:cap * 1≤reachBytes:=by
   have h1:=x (cap * 1) (M _ (by
    rw [G];simp only [DataW.weights,Tryz.underlying42,List.mem_cons];left
    have Y:Tryz.prog.bytesOf 5=1:=by kernel_rfl
    rw [Y];simp;omega))
   simpa using h1
  have hr:reachBytes=140737488351232:=rfl
  refine⟨(List.range len).map f,?_,by rw [e];omega⟩
  refine⟨some a,cap,by rw [e],by rw [e];exact K,by omega,?_⟩
  refine⟨by rw [u8Vals_len,e];omega,fun h0=>⟨a,rfl,?_,?_⟩⟩
  ·have h1:=y 0 (by omega)
   have:=World.cells?_block h1 (by omega)
   simpa [LV] using this
  ·intro q u U
   have T:q < len:=by
    have h1:=(aaE.1 U).1;rw [u8Vals_len,e] at h1
    exact h1
   have h1:=(World.cells?_some (y q T)).2.2 0 (by omega);rw [add_of_addS,show q * 1+0=q by omega] at h1
   rw [h1];rw [← U];simp [u8Vals,T]
theorem U8s.seed {w:World}{v:Value}{l:Bs}(h:U8s w v l):SeedIn w w.heap.size v l:=by
 obtain⟨A,c,rfl,e,f,g⟩:=id h
 refine⟨A,c,rfl,e,by omega,fun h0=>?_⟩
 obtain⟨b,o,rfl,a⟩:=h.rowA (by cases l with | nil=>exact absurd rfl h0 | cons=>simp);exact⟨b,o,rfl,a.lt,a.lt,a.at_⟩
theorem pow_data:(Rows.laid_internal_strconv_uint64pow10:DataW Unit)=Lib.tabData IntKind.u64 Lib.pow10Tab:=by kernel_rfl
theorem pow_of_laid {l : List (String × DataW Unit)} {w : World} (h : laidMet Tryz.prog l w) (a : ("internal/strconv.uint64pow10", Rows.laid_internal_strconv_uint64pow10) ∈ l) : Pow w := by
 rw [pow_data] at a
 exact Lib.tabBelow_of_tabIs (PO (g:=1) (t:=191) (e:=174) (n:=20) (by kernel_rfl) (by kernel_rfl) (by kernel_rfl) (by kernel_rfl) (by kernel_rfl) (by kernel_rfl) h a)
end Go.Proofs.YthepmkjggfijoaaGreatDoor
