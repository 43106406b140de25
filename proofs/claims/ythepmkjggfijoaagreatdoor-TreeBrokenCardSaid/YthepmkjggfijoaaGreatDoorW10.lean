/-
  A part of the proof.
-/
import Derived.Test.YthepmkjggfijoaaGreatDoorSA
import Derived.BigQuiet
import Derived.Test.YthepmkjggfijoaaGreatDoorS22
import Derived.Test.YthepmkjggfijoaaGreatDoorLS
import Derived.Test.YthepmkjggfijoaaGreatDoorW09
set_option linter.all false
set_option maxRecDepth 100000
set_option maxHeartbeats 4000000
namespace Go.Proofs.YthepmkjggfijoaaGreatDoor
open Go.RowKit Mist
attribute [local go_sem] aj aH aS aB ak
theorem pi_ask {i:Bool}{g:Nat}{iv:Value}{w0 w:World}{s:bC}{xs:List NV}{nv lv:Value}{its:List Int}(H:Hid (dY g i iv w s xs nv lv))(b:Hid (jG w0 w xs iv its))(hw:w0.heap.size≤w.heap.size)(hg:g < w0.heap.size)(a7:its.length≤1000)(hn:s.ns.length≤100000)(Q:s.nx % 7=6) :
  Calls Tryz.prog 72 #[.pointer (some ⟨g,0,none⟩)] w (mh g i w0 w its (dM i s)):=by
 obtain⟨Ai,ci,D⟩:=dh b.o.row;subst D;obtain⟨j0,E,I,J,K⟩:=info_parts gN;have Ql:=O fun (row:Option Nat) (w':World) (m:Mv g nv.ownBlock w row w')=>H.o.low m
 have M:=O (iL.refl (g:=g) (w:=w) (xs:=xs) (nv:=nv));have QB:=O (cB.lt b.o.row);have OT:Int.tmod (s.nx:Int) 7=6:=by rw [Int.tmod_eq_emod_of_nonneg (by omega)];omega
 have N:=O (show bZ i s=qz i (1+s.tl.tl.nx % 8) s.tl.tl.tl by unfold bZ;simp only;rw [if_neg (by omega),if_neg (by omega),if_neg (by omega),if_neg (by omega),if_neg (by omega),if_neg (by omega)]);have C:=Q;go_in
 go_wp2_with fail;refine (zS H M).mono ?_;clear H M;rintro e w1⟨oI,rfl,q1,H,M,R⟩
 replace b:=kp R b
 clear R;go_wp2_with fail;refine (zS H M).mono ?_;clear H M;rintro e w2⟨BX,rfl,q2,H,M,R⟩
 replace b:=kp R b
 clear R;go_wp2_with fail;refine (Qe (s.tl.nx) _).mono ?_;rintro e w3⟨x,rfl,Hx,lx,rfl⟩;clear Q;obtain⟨q,F⟩:∃ m,m=(s.tl.tl).nx % 8:=⟨_,rfl⟩;have zq:Int.tmod ((s.tl.tl).nx:Int) 8=(q:Int):=by rw [Int.tmod_eq_emod_of_nonneg (by omega),F];omega
 have n:=O F.symm;have a0:q≤7:=by omega
 clear F;have yq:IntKind.i64.wrap (1+(q:Int))=((1+q:Nat):Int):=by rw [IntWalk.i64_in _ (by omega)];omega
 have JW:=O (show dQ s=if 1+q=7 then [32] else [] from by
  unfold dQ;rw [n.o];by_cases h6:q=6
  ·rw [if_pos ⟨C,h6⟩,if_pos (by omega)]
  ·rw [if_neg (fun h=>h6 h.2),if_neg (by omega)])
 rw [n.o] at N
 go_wp2_with fail;refine (zS H M).mono ?_;clear H M;rintro e w4⟨KF,rfl,q4,H,M,R⟩
 replace b:=kp R b
 clear R;go_wp2_with fail;refine (akH H M (q:=1+q) (by omega) (by omega) (by omega)).mono ?_;clear H M;rintro e w5⟨l,Y,a9,Fu,SG,rfl,jX,Z,BF,H,M,R⟩
 replace b:=kp R b
 clear R
 have L:aN l.pc ++ dQ s=Y:=by
  rw [JW.o,Z.o]
 have J4:=O L;clear L;obtain⟨id,T⟩:∃ id,Hid (l.ix=id):=⟨_,O rfl⟩;rw [T.o];have k:=(b.o.alloc (.cells #[.int .i64 id] 3)).row;have y:=O k;have cI:=H.o.blk.cell 2;clear k;go_wp2_with (at_builtin;go_loud (refine wpList_append_lies _ rfl (.tmp 234) (.tmp 236) 24 rfl 0 3 j0 (.int .i64 0) 1 8 Tryz.underlying24 E I J K rfl (by decide) _ its.length (intCells its) rfl y.o ⟨w5.heap.size,0,none⟩ 1 1 [.int .i64 id] rfl rfl (cell_one_new _ _ _) (by intro u S;simp at S;subst S;rfl) (by omega) (by simp only [maxLen];omega) (by omega) (aaL _) _ rfl ?_);intro gg a2 Tx j f r a8;obtain⟨v,t,Kg,V⟩:=Zc H M rfl Ql b hw hg j f r;have a1:=v.cell 2;have a6:=v.frozen 2;clear j f r v)
 refine (dF g i _ _ (l.st) _ _ _ t.o).mono ?_;rintro e Us⟨rfl,KO,h,m⟩;have X:=O h;have L5:=O (Kg.o.mv t.o m);have U:=O (V.o.trans (t.o.low m));clear h m;have W:=eU i (l.st);obtain⟨G,P⟩:∃ G,Hid (bG i (l.st)=G):=⟨_,O rfl⟩;rw [P.o] at W ⊢
 have a3:¬ 9223372036854775807 < Y.length+G.length:=by omega
 have a4:¬ 9223372036854775807 < Y.length+G.length+1:=by omega
 go_wp2_with fail;go_ret;exact Zi (a:=l) (N.o.trans jX.o) J4.o P.o T.o (by first|(rw [← ak];rfl)|(rw [← ak,← ak];rfl)) X.o L5.o U.o
theorem pi_fun {i:Bool}{g:Nat}{iv:Value}{w0 w:World}{s:bC}{xs:List NV}{nv lv:Value}{its:List Int}(H:Hid (dY g i iv w s xs nv lv))(j:Hid (jG w0 w xs iv its))(hw:w0.heap.size≤w.heap.size)(hg:g < w0.heap.size)(i2:its.length≤1000)(hn:s.ns.length≤100000)(hb:s.nx % 7=2) :
  Calls Tryz.prog 72 #[.pointer (some ⟨g,0,none⟩)] w (mh g i w0 w its (dM i s)):=by
 obtain⟨Ai,ci,e1⟩:=dh j.o.row;subst e1;obtain⟨j0,a0,a1,a2,a3⟩:=info_parts gN;have Ql:=O fun (row:Option Nat) (w':World) (m:Mv g nv.ownBlock w row w')=>H.o.low m
 have M:=O (iL.refl (g:=g) (w:=w) (xs:=xs) (nv:=nv));have QB:=O (cB.lt j.o.row);obtain⟨E,Vk⟩:∃ E,Hid (bB i 4=E):=⟨_,O rfl⟩;have X:=O (UJ i);rw [Vk.o] at X
 have OT:Int.tmod (s.nx:Int) 7=2:=by rw [Int.tmod_eq_emod_of_nonneg (by omega)];omega
 have HB:=O (show bZ i s=BG i (bA s.tl.nx) s.tl.tl by unfold bZ;simp only;rw [if_neg (by omega),if_neg (by omega),if_pos hb]);have JW:=O (show dQ s=[] from if_neg (fun h=>by omega));go_in
 go_wp2_with fail;refine (zS H M).mono ?_;clear H M;rintro e w1⟨oI,rfl,q1,H,M,R⟩
 replace j:=kp R j
 clear R;go_wp2_with fail;refine (zS H M).mono ?_;clear H M;rintro e w2⟨BX,rfl,q2,H,M,R⟩
 replace j:=kp R j
 clear R;go_wp2_with fail;refine (Qe (s.tl.nx) _).mono ?_;rintro e w3⟨x,rfl,Hx,lx,rfl⟩;rw [Hx.o] at HB
 clear hb;obtain⟨m5,a9⟩:∃ m,m=(s.tl.tl).nx % 5:=⟨_,rfl⟩;have k1:Int.tmod ((s.tl.tl).nx:Int) 5=(m5:Int):=by rw [Int.tmod_eq_emod_of_nonneg (by omega),a9];omega
 have b6:=O a9.symm;have g5:m5≤4:=by omega
 clear a9;go_wp2_with fail;refine (zS H M).mono ?_;clear H M;rintro e w4⟨KF,rfl,q4,H,M,R⟩
 replace j:=kp R j
 clear R;go_wp2_with fail;refine (prH H M (m:=m5) (by omega) (by omega)).mono ?_;clear H M;rintro e w5⟨I,l,A5,c5,j5,Fu,SG,rfl,jX,zO,j1,g6,f0,r,H,M,R⟩
 replace j:=kp R j
 clear R;go_wp2_with fail;refine (kdH H M (by omega)).mono ?_;clear H M;rintro e w6⟨t,J,j7,XB,i4,rfl,ow,b4,g4,j2,g7,H,M,R⟩
 replace j:=kp R j
 replace r:=kp R r
 clear R;obtain⟨q,hq⟩:∃ m,m=(t.st).nx % 12:=⟨_,rfl⟩;have zq:Int.tmod ((t.st).nx:Int) 12=(q:Int):=by rw [Int.tmod_eq_emod_of_nonneg (by omega),hq];omega
 have c8:=O hq.symm;have g3:q≤11:=by omega
 clear hq;have b5:=O (show pO t.st=if 8 < q then 0 else q by unfold pO;rw [c8.o]);go_wp2_with fail;refine (zS H M).mono ?_;clear H M;rintro e w7⟨i5,rfl,q7,H,M,R⟩
 replace j:=kp R j
 replace r:=kp R r
 clear R;by_cases b0:8 < q∨q=0
 ·have e2:(8 < q∧(q:Int) > 8∧8 < (q:Int))∨q=0:=by omega
  rcases e2 with ⟨z0,z1,z2⟩ | rfl
  all_goals
   have a5:=O (show pO t.st=0 by rw [b5.o];first | rfl|(split <;> omega));go_wp2_with fail;refine (J2 H M X (by omega)).mono ?_;clear H M;rintro e w8⟨F,T8,j8,V_,e3,rfl,zL,c7,g1,j3,g8,H,M,R⟩
   replace j:=kp R j
   replace r:=kp R r
   clear R;go_wp2_with fail;refine (wP H M).mono ?_;clear H M;rintro e w9⟨y,i6,rfl,c6,GL,g2,H,M,R⟩
   replace j:=kp R j
   replace r:=kp R r
   clear R;have yX:¬ 9223372036854775807 < 3+y.length:=by omega
   have y5:¬ 9223372036854775807 < 3+y.length+x.length:=by omega
   have H7:¬ 9223372036854775807 < 3+y.length+x.length+1:=by omega
   have H8:¬ 9223372036854775807 < 3+y.length+x.length+1+l.length:=by omega
   have Q6:¬ 9223372036854775807 < 3+y.length+x.length+1+l.length+1:=by omega
   go_wp2_with fail;refine (wP H M).mono ?_;clear H M;rintro e Qv⟨P,c1,rfl,Qx,e7,i7,H,M,R⟩
   replace j:=kp R j
   replace r:=kp R r
   clear R;clear yX y5 H7 H8 Q6;have y7:¬ 9223372036854775807 < 3+y.length:=by omega
   have zo:¬ 9223372036854775807 < 3+y.length+x.length:=by omega
   have zx:¬ 9223372036854775807 < 3+y.length+x.length+1:=by omega
   have zB:¬ 9223372036854775807 < 3+y.length+x.length+1+l.length:=by omega
   have CO:¬ 9223372036854775807 < 3+y.length+x.length+1+l.length+1:=by omega
   have Ig:¬ 9223372036854775807 < 3+y.length+x.length+1+l.length+1+P.length:=by omega
   have Rf:¬ 9223372036854775807 < 3+y.length+x.length+1+l.length+1+P.length+1:=by omega
   have Rs:¬ 9223372036854775807 < 3+y.length+x.length+1+l.length+1+P.length+1+J.length:=by omega
   have Rt:¬ 9223372036854775807 < 3+y.length+x.length+1+l.length+1+P.length+1+J.length+0:=by omega
   go_wp2_with fail;refine (wP H M).mono ?_;clear H M;rintro e Et⟨k,c2,rfl,Q,b9,e4,H,M,R⟩
   replace j:=kp R j
   replace r:=kp R r
   clear R;clear y7 zo zx zB CO Ig Rf Rs Rt;have Ih:¬ 9223372036854775807 < 3+y.length:=by omega
   have Ik:¬ 9223372036854775807 < 3+y.length+x.length:=by omega
   have JZ:¬ 9223372036854775807 < 3+y.length+x.length+1:=by omega
   have Kn:¬ 9223372036854775807 < 3+y.length+x.length+1+l.length:=by omega
   have d1:¬ 9223372036854775807 < 3+y.length+x.length+1+l.length+1:=by omega
   have d2:¬ 9223372036854775807 < 3+y.length+x.length+1+l.length+1+P.length:=by omega
   have d3:¬ 9223372036854775807 < 3+y.length+x.length+1+l.length+1+P.length+1:=by omega
   have d4:¬ 9223372036854775807 < 3+y.length+x.length+1+l.length+1+P.length+1+J.length:=by omega
   have d5:¬ 9223372036854775807 < 3+y.length+x.length+1+l.length+1+P.length+1+J.length+0:=by omega
   have d6:¬ 9223372036854775807 < 3+y.length+x.length+1+l.length+1+P.length+1+J.length+0+k.length:=by omega
   have b7:¬ 9223372036854775807 < 3+y.length+x.length+1+l.length+1+P.length+1+J.length+0+k.length+1:=by omega
   have b8:¬ 9223372036854775807 < 3+y.length+x.length+1+l.length+1+P.length+1+J.length+0+k.length+1+T8.length:=by omega
   have S:=O (r.o.alloc (.cells #[.int .i64 t.ix,.int .i64 F.ix] 3));have IA:=O (j.o.alloc (.cells #[.int .i64 t.ix,.int .i64 F.ix] 3));have HA:=O (H.o.alloc (.cells #[.int .i64 t.ix,.int .i64 F.ix] 3));have MA:=O (M.o.dD (o:=.cells #[.int .i64 t.ix,.int .i64 F.ix] 3));have Z:=MA.o.size;have T:=O (Ho QB.o r.o.lo);have K:=O fun b hb=>Nat.le_trans (aaK (aaW hg hw)) (r.o.lo b hb)
   clear r j H M;go_wp2_with (at_builtin;go_loud (refine wpList_append_lies _ rfl (.tmp 169) (.tmp 172) 24 rfl 0 3 j0 (.int .i64 0) 1 8 Tryz.underlying24 a0 a1 a2 a3 rfl (by decide) _ I.ix.length (intCells I.ix) rfl S.o.row ⟨Et.heap.size,0,none⟩ 2 2 [.int .i64 t.ix,.int .i64 F.ix] rfl rfl (iP _ [.int .i64 t.ix,.int .i64 F.ix] _) (by intro u hu;simp at hu;rcases hu with rfl | rfl <;> rfl) (by omega) (by simp only [maxLen];omega) (by omega) (aaL _) _ rfl ?_);intro Kw CK Tx v f C W;have r:=O (S.o.grows (js:=[t.ix,F.ix]) HA.o v C Z);have j:=O (IA.o.keep f T.o);have H:=O (HA.o.grow S.o f K.o);have M:=O (MA.o.grow S.o f);clear v f C W)
   clear S IA HA MA Z T K;obtain⟨Y,HY⟩:∃ Y:Bs,Hid ([102,117,110] ++ y ++ x ++ [40] ++ l ++ [41] ++ P ++ [58] ++ J ++ [] ++ k ++ [61] ++ T8=Y):=⟨_,O rfl⟩;rw [show (⟨#[102,117,110]⟩:ByteArray) ++ aM (y) ++ aM (x) ++ (⟨#[40]⟩:ByteArray) ++ aM (l) ++ (⟨#[41]⟩:ByteArray) ++ aM (P) ++ (⟨#[58]⟩:ByteArray) ++ aM (J) ++ (⟨#[]⟩:ByteArray) ++ aM (k) ++ (⟨#[61]⟩:ByteArray) ++ aM (T8)=aM Y from by rw [← HY.o] <;> (simp only [← ak];rfl)];have BF:Y.length≤10000000:=by rw [← HY.o];simp only [aaO,List.length_cons,List.length_nil];omega
   refine (Zw H M r (by omega)).mono ?_;clear H M;rintro e wQ⟨Dr,uL,rfl,H,M,R⟩
   replace j:=O (R.o _ _ _ QB.o j.o)
   clear R
   have HF:=O (show BG i x s.tl.tl=bH (([],3,[102,117,110]) :: (y,1,x) :: bP [40] :: (I.pc ++ bP [41] :: (P,4,[58]) :: (t.pc ++ (([]:bN) ++ (k,4,[61]) :: F.pc)))) (aX i (aX i (aX i (F.st)))) ⟨42,x,0,(I.ix ++ [t.ix,F.ix]),0⟩ from by
    unfold BG
    try simp only
    rw [b6.o,jX.o,ow.o,a5.o,if_neg (Nat.lt_irrefl 0),if_neg (Nat.lt_irrefl 0),Vk.o,zL.o,c6.o,Qx.o,Q.o] <;> rfl)
   have Bc:aN (([],3,[102,117,110]) :: (y,1,x) :: bP [40] :: (I.pc ++ bP [41] :: (P,4,[58]) :: (t.pc ++ (([]:bN) ++ (k,4,[61]) :: F.pc)))) ++ dQ s=Y:=by
    rw [JW.o,List.append_nil];simp only [aN,qZ,bP];rw [zO.o,b4.o,c7.o,← HY.o] <;> simp only [List.nil_append,List.append_nil,List.append_assoc,List.cons_append]
   have J4:=O Bc;clear Bc;obtain⟨id,qP⟩:∃ id,Hid (bC.id (aX i (aX i (aX i (F.st))))=id):=⟨_,O rfl⟩;rw [qP.o];have L:=(j.o.alloc (.cells #[.int .i64 id] 3)).row;have a4:=O L;have cI:=H.o.blk.cell 2;clear L;go_wp2_with (at_builtin;go_loud (refine wpList_append_lies _ rfl (.tmp 234) (.tmp 236) 24 rfl 0 3 j0 (.int .i64 0) 1 8 Tryz.underlying24 a0 a1 a2 a3 rfl (by decide) _ its.length (intCells its) rfl a4.o ⟨wQ.heap.size,0,none⟩ 1 1 [.int .i64 id] rfl rfl (cell_one_new _ _ _) (by intro u hu;simp at hu;subst hu;rfl) (by omega) (by simp only [maxLen];omega) (by omega) (aaL _) _ rfl ?_);intro gg d0 Tx v f C W;obtain⟨HK,H9,Kg,B9⟩:=Zc H M rfl Ql j hw hg v f C;have c9:=HK.cell 2;have e0:=HK.frozen 2;clear v f C HK)
   refine (dF g i _ _ ((aX i (aX i (aX i (F.st)))).put ⟨42,x,0,(I.ix ++ [t.ix,F.ix]),0⟩) _ _ _ H9.o).mono ?_;rintro e Us⟨rfl,KO,h,m⟩;have H5:=O h;have L5:=O (Kg.o.mv H9.o m);have B5:=O (B9.o.trans (H9.o.low m));clear h m;have GL:=eU i ((aX i (aX i (aX i (F.st)))).put ⟨42,x,0,(I.ix ++ [t.ix,F.ix]),0⟩);obtain⟨G,HG⟩:∃ G,Hid (bG i ((aX i (aX i (aX i (F.st)))).put ⟨42,x,0,(I.ix ++ [t.ix,F.ix]),0⟩)=G):=⟨_,O rfl⟩;rw [HG.o] at GL ⊢
   have d7:¬ 9223372036854775807 < Y.length+G.length:=by omega
   have d8:¬ 9223372036854775807 < Y.length+G.length+1:=by omega
   go_wp2_with fail;go_ret;exact Zi (a:=bH (([],3,[102,117,110]) :: (y,1,x) :: bP [40] :: (I.pc ++ bP [41] :: (P,4,[58]) :: (t.pc ++ (([]:bN) ++ (k,4,[61]) :: F.pc)))) (aX i (aX i (aX i (F.st)))) ⟨42,x,0,(I.ix ++ [t.ix,F.ix]),0⟩) (HB.o.trans HF.o) J4.o HG.o qP.o (by first|(rw [← ak];rfl)|(rw [← ak,← ak];rfl)) H5.o L5.o B5.o
 ·have h8:¬ 8 < q:=fun h=>b0 (.inl h)
  have h0:0 < q:=Nat.pos_of_ne_zero fun h=>b0 (.inr h)
  clear b0;have f9:¬ (q:Int) > 8:=by omega
  have z0:(q:Int) > 0:=by omega
  have k0:¬ 8 < (q:Int):=by omega
  have j9:0 < (q:Int):=by omega
  have a5:=O (show pO t.st=q by rw [b5.o,if_neg h8]);have c0:=wF ⟨q,by omega⟩;simp only at c0
  go_wp2_with fail;refine (wP H M).mono ?_;clear H M;rintro e w8⟨pJ,e3,rfl,c4,i1,q8,H,M,R⟩
  replace j:=kp R j
  replace r:=kp R r
  clear R;go_wp2_with fail;refine (itH H M (n:=(q:Int)) (by omega) (by omega)).mono ?_;clear H M;rintro e w9⟨U,rfl,HU,H,M,R⟩
  replace j:=kp R j
  replace r:=kp R r
  clear R;rw [HU.o] at c0
  have g9:¬ 9223372036854775807 < 5+pJ.length:=by omega
  have i0:¬ 9223372036854775807 < 5+pJ.length+U.length:=by omega
  go_wp2_with fail;obtain⟨V,HV⟩:∃ Y:Bs,Hid ([32,117,112,116,111] ++ pJ ++ U=Y):=⟨_,O rfl⟩;rw [show (⟨#[32,117,112,116,111]⟩:ByteArray) ++ aM (pJ) ++ aM (U)=aM V from by rw [← HV.o] <;> (simp only [← ak];rfl)];have g0:V.length≤10000000:=by rw [← HV.o];simp only [aaO,List.length_cons,List.length_nil];omega
  have i3:V.length≤30:=by rw [← HV.o];simp only [aaO,List.length_cons,List.length_nil];omega
  refine (J2 H M X (by omega)).mono ?_;clear H M;rintro e Qv⟨D,a7,f6,f3,c1,rfl,vO,b3,f8,f5,e6,H,M,R⟩
  replace j:=kp R j
  replace r:=kp R r
  clear R;go_wp2_with fail;refine (wP H M).mono ?_;clear H M;rintro e Et⟨k,c2,rfl,Q,b9,e4,H,M,R⟩
  replace j:=kp R j
  replace r:=kp R r
  clear R;have yX:¬ 9223372036854775807 < 3+k.length:=by omega
  have y5:¬ 9223372036854775807 < 3+k.length+x.length:=by omega
  have H7:¬ 9223372036854775807 < 3+k.length+x.length+1:=by omega
  have H8:¬ 9223372036854775807 < 3+k.length+x.length+1+l.length:=by omega
  have Q6:¬ 9223372036854775807 < 3+k.length+x.length+1+l.length+1:=by omega
  go_wp2_with fail;refine (wP H M).mono ?_;clear H M;rintro e wQ⟨N,f1,rfl,b1,e8,i8,H,M,R⟩
  replace j:=kp R j
  replace r:=kp R r
  clear R;clear yX y5 H7 H8 Q6;have y7:¬ 9223372036854775807 < 3+k.length:=by omega
  have zo:¬ 9223372036854775807 < 3+k.length+x.length:=by omega
  have zx:¬ 9223372036854775807 < 3+k.length+x.length+1:=by omega
  have zB:¬ 9223372036854775807 < 3+k.length+x.length+1+l.length:=by omega
  have CO:¬ 9223372036854775807 < 3+k.length+x.length+1+l.length+1:=by omega
  have Ig:¬ 9223372036854775807 < 3+k.length+x.length+1+l.length+1+N.length:=by omega
  have Rf:¬ 9223372036854775807 < 3+k.length+x.length+1+l.length+1+N.length+1:=by omega
  have Rs:¬ 9223372036854775807 < 3+k.length+x.length+1+l.length+1+N.length+1+J.length:=by omega
  have Rt:¬ 9223372036854775807 < 3+k.length+x.length+1+l.length+1+N.length+1+J.length+V.length:=by omega
  go_wp2_with fail;refine (wP H M).mono ?_;clear H M;rintro e e5⟨Y0,f2,rfl,b2,e9,i9,H,M,R⟩
  replace j:=kp R j
  replace r:=kp R r
  clear R;clear y7 zo zx zB CO Ig Rf Rs Rt;have Ih:¬ 9223372036854775807 < 3+k.length:=by omega
  have Ik:¬ 9223372036854775807 < 3+k.length+x.length:=by omega
  have JZ:¬ 9223372036854775807 < 3+k.length+x.length+1:=by omega
  have Kn:¬ 9223372036854775807 < 3+k.length+x.length+1+l.length:=by omega
  have d1:¬ 9223372036854775807 < 3+k.length+x.length+1+l.length+1:=by omega
  have d2:¬ 9223372036854775807 < 3+k.length+x.length+1+l.length+1+N.length:=by omega
  have d3:¬ 9223372036854775807 < 3+k.length+x.length+1+l.length+1+N.length+1:=by omega
  have d4:¬ 9223372036854775807 < 3+k.length+x.length+1+l.length+1+N.length+1+J.length:=by omega
  have d5:¬ 9223372036854775807 < 3+k.length+x.length+1+l.length+1+N.length+1+J.length+V.length:=by omega
  have d6:¬ 9223372036854775807 < 3+k.length+x.length+1+l.length+1+N.length+1+J.length+V.length+Y0.length:=by omega
  have b7:¬ 9223372036854775807 < 3+k.length+x.length+1+l.length+1+N.length+1+J.length+V.length+Y0.length+1:=by omega
  have b8:¬ 9223372036854775807 < 3+k.length+x.length+1+l.length+1+N.length+1+J.length+V.length+Y0.length+1+a7.length:=by omega
  have S:=O (r.o.alloc (.cells #[.int .i64 t.ix,.int .i64 D.ix] 3));have IA:=O (j.o.alloc (.cells #[.int .i64 t.ix,.int .i64 D.ix] 3));have HA:=O (H.o.alloc (.cells #[.int .i64 t.ix,.int .i64 D.ix] 3));have MA:=O (M.o.dD (o:=.cells #[.int .i64 t.ix,.int .i64 D.ix] 3));have Z:=MA.o.size;have T:=O (Ho QB.o r.o.lo);have K:=O fun b hb=>Nat.le_trans (aaK (aaW hg hw)) (r.o.lo b hb)
  clear r j H M;go_wp2_with (at_builtin;go_loud (refine wpList_append_lies _ rfl (.tmp 169) (.tmp 172) 24 rfl 0 3 j0 (.int .i64 0) 1 8 Tryz.underlying24 a0 a1 a2 a3 rfl (by decide) _ I.ix.length (intCells I.ix) rfl S.o.row ⟨e5.heap.size,0,none⟩ 2 2 [.int .i64 t.ix,.int .i64 D.ix] rfl rfl (iP _ [.int .i64 t.ix,.int .i64 D.ix] _) (by intro u hu;simp at hu;rcases hu with rfl | rfl <;> rfl) (by omega) (by simp only [maxLen];omega) (by omega) (aaL _) _ rfl ?_);intro Kw CK Tx v f C W;have r:=O (S.o.grows (js:=[t.ix,D.ix]) HA.o v C Z);have j:=O (IA.o.keep f T.o);have H:=O (HA.o.grow S.o f K.o);have M:=O (MA.o.grow S.o f);clear v f C W)
  clear S IA HA MA Z T K;obtain⟨Y,HY⟩:∃ Y:Bs,Hid ([102,117,110] ++ k ++ x ++ [40] ++ l ++ [41] ++ N ++ [58] ++ J ++ V ++ Y0 ++ [61] ++ a7=Y):=⟨_,O rfl⟩;rw [show (⟨#[102,117,110]⟩:ByteArray) ++ aM (k) ++ aM (x) ++ (⟨#[40]⟩:ByteArray) ++ aM (l) ++ (⟨#[41]⟩:ByteArray) ++ aM (N) ++ (⟨#[58]⟩:ByteArray) ++ aM (J) ++ aM (V) ++ aM (Y0) ++ (⟨#[61]⟩:ByteArray) ++ aM (a7)=aM Y from by rw [← HY.o] <;> (simp only [← ak];rfl)];have BF:Y.length≤10000000:=by rw [← HY.o];simp only [aaO,List.length_cons,List.length_nil];omega
  refine (Zw H M r (by omega)).mono ?_;clear H M;rintro e Tx⟨f7,f4,rfl,H,M,R⟩
  replace j:=O (R.o _ _ _ QB.o j.o)
  clear R
  have HF:=O (show BG i x s.tl.tl=bH (([],3,[102,117,110]) :: (k,1,x) :: bP [40] :: (I.pc ++ bP [41] :: (N,4,[58]) :: (t.pc ++ ([([32],3,[117,112,116,111]),(pJ,2,U)] ++ (Y0,4,[61]) :: D.pc)))) (aX i (aX i (aX i (D.st)))) ⟨42,x,(q:Int),(I.ix ++ [t.ix,D.ix]),0⟩ from by
   unfold BG
   try simp only
   rw [b6.o,jX.o,ow.o,a5.o,if_pos h0,if_pos h0,c4.o,HU.o,Vk.o,vO.o,Q.o,b1.o,b2.o] <;> rfl)
  have Bc:aN (([],3,[102,117,110]) :: (k,1,x) :: bP [40] :: (I.pc ++ bP [41] :: (N,4,[58]) :: (t.pc ++ ([([32],3,[117,112,116,111]),(pJ,2,U)] ++ (Y0,4,[61]) :: D.pc)))) ++ dQ s=Y:=by
   rw [JW.o,List.append_nil];simp only [aN,qZ,bP];rw [zO.o,b4.o,b3.o,← HY.o,← HV.o] <;> simp only [List.nil_append,List.append_nil,List.append_assoc,List.cons_append]
  have J4:=O Bc;clear Bc;obtain⟨id,qP⟩:∃ id,Hid (bC.id (aX i (aX i (aX i (D.st))))=id):=⟨_,O rfl⟩;rw [qP.o];have L:=(j.o.alloc (.cells #[.int .i64 id] 3)).row;have a4:=O L;have cI:=H.o.blk.cell 2;clear L;go_wp2_with (at_builtin;go_loud (refine wpList_append_lies _ rfl (.tmp 234) (.tmp 236) 24 rfl 0 3 j0 (.int .i64 0) 1 8 Tryz.underlying24 a0 a1 a2 a3 rfl (by decide) _ its.length (intCells its) rfl a4.o ⟨Tx.heap.size,0,none⟩ 1 1 [.int .i64 id] rfl rfl (cell_one_new _ _ _) (by intro u hu;simp at hu;subst hu;rfl) (by omega) (by simp only [maxLen];omega) (by omega) (aaL _) _ rfl ?_);intro gg d0 Tx v f C W;obtain⟨HK,H9,Kg,B9⟩:=Zc H M rfl Ql j hw hg v f C;have c9:=HK.cell 2;have e0:=HK.frozen 2;clear v f C HK)
  refine (dF g i _ _ ((aX i (aX i (aX i (D.st)))).put ⟨42,x,(q:Int),(I.ix ++ [t.ix,D.ix]),0⟩) _ _ _ H9.o).mono ?_;rintro e Us⟨rfl,KO,h,m⟩;have H5:=O h;have L5:=O (Kg.o.mv H9.o m);have B5:=O (B9.o.trans (H9.o.low m));clear h m;have GL:=eU i ((aX i (aX i (aX i (D.st)))).put ⟨42,x,(q:Int),(I.ix ++ [t.ix,D.ix]),0⟩);obtain⟨G,HG⟩:∃ G,Hid (bG i ((aX i (aX i (aX i (D.st)))).put ⟨42,x,(q:Int),(I.ix ++ [t.ix,D.ix]),0⟩)=G):=⟨_,O rfl⟩;rw [HG.o] at GL ⊢
  have d7:¬ 9223372036854775807 < Y.length+G.length:=by omega
  have d8:¬ 9223372036854775807 < Y.length+G.length+1:=by omega
  go_wp2_with fail;go_ret;exact Zi (a:=bH (([],3,[102,117,110]) :: (k,1,x) :: bP [40] :: (I.pc ++ bP [41] :: (N,4,[58]) :: (t.pc ++ ([([32],3,[117,112,116,111]),(pJ,2,U)] ++ (Y0,4,[61]) :: D.pc)))) (aX i (aX i (aX i (D.st)))) ⟨42,x,(q:Int),(I.ix ++ [t.ix,D.ix]),0⟩) (HB.o.trans HF.o) J4.o HG.o qP.o (by first|(rw [← ak];rfl)|(rw [← ak,← ak];rfl)) H5.o L5.o B5.o
end Go.Proofs.YthepmkjggfijoaaGreatDoor
namespace Go.Proofs.YthepmkjggfijoaaGreatDoor
open Go.RowKit Mist
theorem XQ (k:Bool)(g:Nat)(iv:Value)(w0 w:World)(s:bC)(xs:List NV)(nv lv:Value)(its:List Int)(h:dY g k iv w s xs nv lv)(e:jG w0 w xs iv its)(j:w0.heap.size≤w.heap.size)(f:g < w0.heap.size)(a:its.length≤1000)(i:s.ns.length≤100000) :
  Calls Tryz.prog 72 #[.pointer (some ⟨g,0,none⟩)] w (mh g k w0 w its (dM k s)):=by
 have h7:s.nx % 7 < 7:=Nat.mod_lt _ (by decide);obtain b | b | b | b | b | b | b:s.nx % 7=0∨s.nx % 7=1∨s.nx % 7=2∨s.nx % 7=3∨s.nx % 7=4∨s.nx % 7=5∨s.nx % 7=6:=by omega
 ·exact Po (O h) (O e) j f a i b
 ·exact XD (O h) (O e) j f a i b
 ·exact pi_fun (O h) (O e) j f a i b
 ·exact XA (O h) (O e) j f a i b
 ·exact KU (O h) (O e) j f a i b
 ·exact KV (O h) (O e) j f a i b
 ·exact pi_ask (O h) (O e) j f a i b
end Go.Proofs.YthepmkjggfijoaaGreatDoor
namespace Go.Proofs.YthepmkjggfijoaaGreatDoor
open Go.RowKit Mist
attribute [local go_sem] aj aH aS aB ak
def KA (r:pz):Bs:=aN r.pc ++ (if r.ix=[] then [] else [10])
theorem OP (a:Bool)(m:Nat){r:pz}(h:r.st.left=[]):jR a m r=r:=by
 cases m with
 | zero=>rfl
 | succ m=>rw [jR,if_pos h]
def qJ (ay:Bool)(r:pz):pz:=⟨r.pc ++ (if r.ix=[] then (dM ay r.st).pc else bN.on [10] (dM ay r.st).pc),r.ix ++ [(dM ay r.st).ix],(dM ay r.st).st⟩
theorem OQ (a:Bool)(m:Nat){r:pz}(h:r.st.left ≠ []):jR a (m+1) r=jR a m (qJ a r):=by
 rw [jR,if_neg h];rfl
theorem FP (a:Bool)(r:pz)(h:r.ix=[]→r.pc=[]):KA (qJ a r)=KA r ++ (aN (dM a r.st).pc ++ [10]):=by
 have b:=(EO a r.st).2
 show aN (r.pc ++ (if r.ix=[] then (dM a r.st).pc else bN.on [10] (dM a r.st).pc)) ++ (if r.ix ++ [(dM a r.st).ix]=[] then [] else [10])=aN r.pc ++ (if r.ix=[] then [] else [10]) ++ (aN (dM a r.st).pc ++ [10])
 have e:¬ (r.ix ++ [(dM a r.st).ix]=[]):=by simp
 rw [if_neg e,qZ];by_cases h0:r.ix=[]
 ·rw [if_pos h0,if_pos h0,h h0];simp only [aN,List.nil_append,List.append_nil,List.append_assoc]
 ·rw [if_neg h0,if_neg h0,b.text];simp only [List.append_assoc]
theorem T9 (a:Bool)(r:pz)(h:r.ix=[]→r.pc=[]):(KA (qJ a r)).length≤(KA r).length+12001∧(qJ a r).st.ns.length≤r.st.ns.length+900:=by
 obtain⟨h1,h2⟩:=Jj a r.st
 refine⟨?_,h2⟩
 rw [FP a r h,aaO,aaO];have h1:(aN (dM a r.st).pc).length≤12000:=h1
 show _+(_+1)≤_
 omega
def Hz (t:Bs):Nat:=(t.filter fun b=>!(b == 32) && !(b == 10)).length
theorem MB (t:Bs):Hz t≤t.length:=List.length_filter_le _ _
theorem Og {t:Bs}{k:Nat}(e:k < t.length):Hz (t.take (k+1))=Hz (t.take k)+if (gt t k == 32 || gt t k == 10)=true then 0 else 1:=by
 have a:t[k]? = some (gt t k):=by unfold gt;rw [aaH,aaD e];rfl
 unfold Hz;rw [List.take_add_one,a,List.filter_append,aaO]
 generalize gt t k=b
 show _+(List.filter _ [b]).length=_
 cases h1:b == 32 <;> cases h2:b == 10 <;> simp [h1,h2]
theorem Gd (a:Bool)(b:Bs):bY a b=KA (grown a b):=rfl
theorem cnt_eq (b:UInt8):(if (b == 32 || b == 10)=true then 0 else 1)=if b.toNat=32∨b.toNat=10 then 0 else 1:=by
 have e:∀ k:UInt8,(b == k)=decide (b.toNat=k.toNat):=fun k=>by
  by_cases h:b=k
  ·subst h;simp
  ·have h2:¬ b.toNat=k.toNat:=fun a=>h (UInt8.toNat_inj.1 a)
   rw [aaV h2];simpa using h
 rw [e 32,e 10];have h1:(32:UInt8).toNat=32:=rfl;have h2:(10:UInt8).toNat=10:=rfl;rw [h1,h2];simp
theorem mD.up {w:World}{g g':Nat}{lv:Value}{l:Bs}(h:mD w g lv l)(i:g≤g'):mD w g' lv l:=by
 obtain⟨A,c,rfl,e,a,f⟩:=h
 refine⟨A,c,rfl,e,a,fun h0=>?_⟩
 obtain⟨b,o,rfl,h1,h2,h3⟩:=f h0;exact⟨b,o,rfl,by omega,h2,h3⟩
def Pow (w : World) : Prop := Lib.TabBelow Tryz.prog w.heap.size w "internal/strconv.uint64pow10" .u64 Lib.pow10Tab
def Mc (w:World)(A B:Option Addr)(xs:List NV)(its:List Int):Prop:=(∀ x ∈ xs,x.1.kids.length≤1000000)→mq w A B xs its
structure yT (w:World) (A B:Option Addr) (c d:Nat) (xs:List NV) (its:List Int):Prop where
 own:∃ g,w.ownsRow g 50 5 (.slice A xs.length c) xs.length (iO xs)
 kids:∀ x ∈ xs,cB w x.2 x.1.kids
 row:cB w (.slice B its.length d) its
section
variable {w w':World} {A B:Option Addr} {c d:Nat} {xs:List NV} {its:List Int}
theorem yT.set (h:yT w A B c d xs its){tb:Nat}{cs:Array Value}(a:aC w tb 26 cs)(i:Nat)(u:Value):yT (w.setCell ⟨tb,i,none⟩ u) A B c d xs its:=by
 obtain⟨g,b⟩:=h.own;exact⟨⟨g,ownsRow_setCell_other b (aT b a (by decide)) u⟩,fun x e=>ownsRow_setCell_other (h.kids x e) (aT (h.kids x e) a (by decide)) u,ownsRow_setCell_other h.row (aT h.row a (by decide)) u⟩
theorem yT.below (h:yT w A B c d xs its)(a:Below w.heap.size w w'):yT w' A B c d xs its:=by
 obtain⟨g,b⟩:=h.own;exact⟨⟨g,own_below b a⟩,fun x e=>own_below (h.kids x e) a,own_below h.row a⟩
theorem yT.tree (h:yT w A B c d xs its):Mc w A B xs its:=fun b=>by
 obtain⟨g,i⟩:=h.own
 refine⟨fun h0=>?_,yI h.row rfl⟩
 obtain⟨a,e,f⟩:=Ee i h0 (fun x j=>⟨_,h.kids x j⟩) b;exact⟨a,0,e,f⟩
theorem dY.rows {g:Nat}{a:Bool}{iv lv:Value}{w0:World}{s:bC}(h:dY g a iv w s xs (.slice A xs.length c) lv)(b:jG w0 w xs (.slice B its.length d) its):yT w A B c d xs its:=⟨⟨g,h.own⟩,h.kids,b.row⟩
end
def GU (ay:Bool)(zA:Bs)(w:World)(e:Ending)(w':World):Prop :=
 Below w.heap.size w w'∧∃ A B c d xs,e=.returned (.tuple #[.string (aM (bY ay zA)),.agg #[.slice A xs.length c,.slice B (grown ay zA).ix.length d],.bool (uJ (bY ay zA))]) ∧
  aA xs=(grown ay zA).st.ns∧Mc w' A B xs (grown ay zA).ix
theorem N8 {w a w':World}{g:Nat}(h1:Below w.heap.size w a)(h2:Below g a w')(b:w.heap.size≤g):Below w.heap.size w w':=h1.trans (h2.mono b)
theorem RN (f:Bool)(q:Bs)(a4:Value)(w:World)(hP:Pow w)(hS:mD w w.heap.size a4 q) :
  Calls Tryz.prog 28 #[a4,.bool f] w (GU f q w):=by
 obtain⟨N,F,rfl,_⟩:=id hS;have M:Below w.heap.size w ((w.alloc (.cells #[.slice none 0 0,.slice none 0 0] 26)).alloc (.cells #[.slice N q.length F,.slice none 0 0,.slice none 0 0,.bool f] 81)):=ah (ah (Below.refl _ _) (aaJ _)) (by simp)
 have J:=O (show dY (w.heap.size+1) f (.slice none 0 0) ((w.alloc (.cells #[.slice none 0 0,.slice none 0 0] 26)).alloc (.cells #[.slice N q.length F,.slice none 0 0,.slice none 0 0,.bool f] 81)) ⟨q,[]⟩ [] (.slice none 0 0) (.slice N q.length F) from
  ⟨dL (W:=w.alloc (.cells #[.slice none 0 0,.slice none 0 0] 26)) (by simp),(hS.below M (aaJ _)).up (by omega),World.ownsRow_nil _ _ _ _,(fun x hx=>nomatch hx),rfl,fun w2 U=>hP w2 (M.trans (U.mono (by omega)))⟩)
 have rE:=O ((aC.new w 26 #[.slice none 0 0,.slice none 0 0]).alloc (.cells #[.slice N q.length F,.slice none 0 0,.slice none 0 0,.bool f] 81));have TL:=O (jG.nil ((w.alloc (.cells #[.slice none 0 0,.slice none 0 0] 26)).alloc (.cells #[.slice N q.length F,.slice none 0 0,.slice none 0 0,.bool f] 81)) ((w.alloc (.cells #[.slice none 0 0,.slice none 0 0] 26)).alloc (.cells #[.slice N q.length F,.slice none 0 0,.slice none 0 0,.bool f] 81)) []);have EZ:=O M;clear M hS hP;go_in
 go_wp2_with fail;obtain⟨g,hg⟩:∃ g,g=w.heap.size+1:=⟨_,rfl⟩;rw [← hg] at J ⊢
 have b7:w.heap.size < g:=by omega
 have a3:g < ((w.alloc (.cells #[.slice none 0 0,.slice none 0 0] 26)).alloc (.cells #[.slice N q.length F,.slice none 0 0,.slice none 0 0,.bool f] 81)).heap.size:=by simp;omega
 clear hg
 generalize (w.alloc (.cells #[.slice none 0 0,.slice none 0 0] 26)).alloc (.cells #[.slice N q.length F,.slice none 0 0,.slice none 0 0,.bool f] 81)=w2 at J rE TL EZ a3 ⊢
 go_loopw [8,9] (fun sv i wr=>∃ (k:Nat) (r:pz) (X:Bs) (iv nv lv:Value) (xs:List NV),k≤12∧i=.int .i64 k∧sv=.string (aM X)∧Hid (X=KA r)∧Hid (jR f (12 - k) r=grown f q)∧Hid (r.ix=[]→r.pc=[])∧r.ix.length≤k∧X.length≤k * 12001∧r.st.ns.length≤k * 900∧Hid (dY g f iv wr r.st xs nv lv)∧Hid (jG w2 wr xs iv r.ix)∧Hid (Below g w2 wr)) (fun _ i _=>12 - (intOf i).toNat)
 case atStart=>exact⟨0,⟨[],[],⟨q,[]⟩⟩,[],_,_,_,[],aaL _,rfl,rfl,O rfl,O rfl,O fun _=>rfl,aaJ _,aaJ _,aaJ _,J,TL,O (Below.refl _ _)⟩
 case round =>
  clear J TL;obtain⟨wo,rfl⟩:∃ wo:World,wo=wr:=⟨_,rfl⟩;obtain⟨k,r,X,iv,nv,lv,xs,hk,rfl,rfl,HX,HR,HN,b9,c8,d4,H,L,HB⟩:=hrel;have c4:=HB.o.size;obtain⟨A1,c1,rfl,_⟩:=id H.o.seed;have F:=H.o.blk.cell 0;obtain⟨n,hn⟩:∃ n,n=r.st.left.length:=⟨_,rfl⟩;rw [← hn] at F H
  by_cases b8:k < 12∧0 < n
  ·obtain⟨h12,d3⟩:=b8;have a2:r.st.left ≠ []:=fun h=>by rw [h] at hn;simp at hn;omega
   obtain⟨mm,a1⟩:∃ mm,12 - k=mm+1:=⟨12 - k - 1,by omega⟩;have S:=HR.o;rw [a1,OQ f mm a2] at S
   have a9:=O S;have U1:=O (show 12 - (k+1)=mm by omega);have b0:=O (T9 f r HN.o);have b1:=O (FP f r HN.o);have a6:(k:Int) < 12:=by omega
   have zn:(0:Int) < (n:Int):=by omega
   have V:=(Jj f r.st).1;obtain⟨a,ha⟩:∃ a,a=dM f r.st:=⟨_,rfl⟩;have HA:=O ha;clear a2 a1 S ha hn;rw [← HA.o] at V
   go_wp2_with fail;refine (XQ f g iv w2 _ r.st xs nv _ r.ix H.o L.o c4 a3 (by omega) (by omega)).mono ?_;rintro e w3⟨rfl,AY,a5,eO,lW,h,l,b⟩;rw [← HA.o] at h l ⊢
   have H3:=O h;have L3:=O l;have B3:=O (HB.o.trans b);clear h l b H L HB;obtain⟨T,hT⟩:∃ T,T=aN a.pc:=⟨_,rfl⟩;have c6:T.length≤12000:=by rw [hT];exact V
   rw [← hT];have HT:=O hT;clear hT V;have q0:¬ 9223372036854775807 < T.length+1:=by omega
   have q1:¬ 9223372036854775807 < X.length+(T.length+1):=by omega
   go_wp2_with fail;have b3:=O (show X ++ (T ++ [10])=KA (qJ f r) by rw [b1.o,HX.o,HT.o,HA.o])
   refine⟨⟨k+1,qJ f r,X ++ (T ++ [10]),_,_,_,_,by omega,by go_num,?_,b3,O (by rw [U1.o];exact a9.o),O fun h=>by simp [qJ] at h,by show (r.ix ++ [_]).length≤_;rw [aaO];exact Nat.add_le_add_right b9 1,by simp only [aaO,List.length_cons,List.length_nil];omega,by have:=b0.o.2;omega,by show Hid (dY g f AY w3 (dM f r.st).st a5 eO lW);rw [← HA.o];exact H3,by show Hid (jG w2 w3 a5 AY (r.ix ++ [(dM f r.st).ix]));rw [← HA.o];exact L3,B3⟩,by simp [intOf];omega⟩
   refine congrArg Value.string ?_;rw [← ak,← ak];rfl
  ·have Q:jR f (12 - k) r=r:=by
    by_cases h12:k < 12
    ·exact OP f _ (List.eq_nil_of_length_eq_zero (by omega))
    ·rw [show 12 - k=0 by omega];rfl
   have HE:=O (show r=grown f q by rw [← HR.o,Q]);clear Q HR hn
   have b6:(decide ((k:Int) < 12) && decide ((0:Int) < (n:Int)))=false:=by
    rcases Nat.lt_or_ge k 12 with h | h
    ·rw [aaV (by omega:¬ (0:Int) < (n:Int)),Bool.and_false]
    ·rw [aaV (by omega:¬ (k:Int) < 12),Bool.false_and]
   have c7:X.length≤200000:=by omega
   have b2:=O (show X=bY f q by rw [Gd,← HE.o,HX.o]);have Bc:=O (show r.ix=(grown f q).ix by rw [← HE.o]);have rC:=O (show r.st.ns=(grown f q).st.ns by rw [← HE.o]);obtain⟨E,G,rfl⟩:=dh H.o.own;obtain⟨I,K,rfl⟩:=dh L.o.row;have d0:g < wo.heap.size:=H.o.lt;have h12:((k:Int) < 12∧¬ (0:Int) < (n:Int))∨¬ (k:Int) < 12:=by omega
   rcases h12 with ⟨a6,zn⟩ | a6
   all_goals
    go_wp2_with fail;go_loopw [10,11] (fun t i wq=>∃ j:Nat,j≤X.length∧i=.int .i64 j∧t=.int .i64 (Hz (X.take j))∧wq=wo) (fun _ i _=>X.length - (intOf i).toNat)
    case atStart=>exact⟨0,aaL _,rfl,by simp [Hz],rfl⟩
    case round =>
     obtain⟨j,hj,rfl,rfl,rfl⟩:=hrel;by_cases c2:j < X.length
     ·obtain⟨b,U⟩:∃ b,b=gt X j:=⟨_,rfl⟩;have m:=Og c2;have Y:=MB (X.take j);have c5:(X.take j).length≤X.length:=by rw [List.length_take];omega
      rw [← U,cnt_eq] at m
      obtain⟨u,Z⟩:∃ u,u=Hz (X.take j):=⟨_,rfl⟩;rw [← Z] at m Y ⊢
      have a0:gt X j=b:=U.symm;have z0:(0:Int)≤(j:Int):=by omega
      have z1:(j:Int) < (X.length:Int):=by omega
      obtain⟨v,hv⟩:∃ v,v=b.toNat:=⟨_,rfl⟩;rw [← hv] at m
      have c9:(gt X j).toNat=v:=by rw [a0,hv]
      clear U Z a0 hv;have d5:u≤200000:=by omega
      by_cases b5:v=32
      ·subst b5;rw [if_pos (.inl rfl)] at m
       have C:=O m;clear m;go_wp2_with fail;exact⟨⟨j+1,by omega,by go_num,by rw [C.o];go_num,trivial⟩,by simp [intOf];omega⟩
      have d7:((v:Int) != 32)=true:=by simp;omega
      by_cases b4:v=10
      ·subst b4;rw [if_pos (.inr rfl)] at m
       have C:=O m;clear m;go_wp2_with fail;exact⟨⟨j+1,by omega,by go_num,by rw [C.o];go_num,trivial⟩,by simp [intOf];omega⟩
      have d6:((v:Int) != 10)=true:=by simp;omega
      rw [if_neg (by omega)] at m
      have C:=O m;clear m;go_wp2_with fail;exact⟨⟨j+1,by omega,by go_num,by rw [C.o];go_num,trivial⟩,by simp [intOf];omega⟩
     ·obtain rfl:j=X.length:=by omega
      rw [List.take_length];have Y:=MB X;obtain⟨u,Z⟩:∃ u,u=Hz X:=⟨_,rfl⟩;rw [← Z] at Y ⊢
      have R:=O (show uJ X=(decide (X.length≤2000) && decide (u≤800)) by rw [Z];rfl);clear Z;have d1:=H.o.blk.cell 1;have d2:=H.o.blk.cell 2;have P:=O (rE.o.below HB.o b7);have e0:=P.o.cell 0;have e1:=P.o.cell 1;have f0:=P.o.frozen 0;have f1:=P.o.frozen 1;have y:=O ((((P.o.d_ 0 (.slice E xs.length G)).d_ 1 (.slice I r.ix.length K))).below (Below.drew (Below.refl ((wr.setCell ⟨w.heap.size,0,none⟩ (.slice E xs.length G)).setCell ⟨w.heap.size,1,none⟩ (.slice I r.ix.length K)).heap.size _)) (by have:=P.o.lt;simpa using this));have a8:=O ((((H.o.rows L.o).set P.o 0 (.slice E xs.length G)).set (P.o.d_ 0 (.slice E xs.length G)) 1 (.slice I r.ix.length K)).below (Below.drew (Below.refl _ _)));have a7:=O (Below.drew (dx (b:=w.heap.size) (i:=1) (u:=.slice I r.ix.length K) (dx (b:=w.heap.size) (i:=0) (u:=.slice E xs.length G) (N8 EZ.o HB.o (by omega)) (aaJ _)) (aaJ _)));have D:=O fun (b:Bool) (U:uJ X=b)=>(show GU f q w (.returned (.tuple #[.string (aM X),.agg #[.slice E xs.length G,.slice I r.ix.length K],.bool b])) _ from ⟨a7.o,E,I,G,K,xs,by rw [← b2.o,← Bc.o,U],by rw [← rC.o];exact H.o.ns,by rw [← Bc.o];exact a8.o.tree⟩)
      by_cases k1:X.length≤2000
      ·have z1:(X.length:Int)≤2000:=by omega
       by_cases k2:u≤800
       ·have z2:(u:Int)≤800:=by omega
        go_wp2_with fail;go_region
        go_wp2_with fail;have r0:=y.o.cell 0;have r1:=y.o.cell 1;refine bodyPost_ret (v:=.tuple #[.string (aM X),.agg #[.slice E xs.length G,.slice I r.ix.length K],.bool true]) (by simp [results,Tryz.f28,go_sem,r0,r1] <;> omega) rfl ?_;exact D.o true (by rw [R.o];rw [aaU k1,aaU k2];rfl)
       ·have z2:¬ (u:Int)≤800:=by omega
        go_wp2_with fail;go_region
        go_wp2_with fail;have r0:=y.o.cell 0;have r1:=y.o.cell 1;refine bodyPost_ret (v:=.tuple #[.string (aM X),.agg #[.slice E xs.length G,.slice I r.ix.length K],.bool false]) (by simp [results,Tryz.f28,go_sem,r0,r1] <;> omega) rfl ?_;exact D.o false (by rw [R.o];rw [aaV k2,Bool.and_false])
      ·have z1:decide ((X.length:Int)≤2000)=false:=aaV (by omega);have K1:=O k1;clear k1;go_wp2_with fail;go_region
       go_wp2_with fail;have r0:=y.o.cell 0;have r1:=y.o.cell 1;refine bodyPost_ret (v:=.tuple #[.string (aM X),.agg #[.slice E xs.length G,.slice I r.ix.length K],.bool false]) (by simp [results,Tryz.f28,go_sem,r0,r1] <;> omega) rfl ?_;exact D.o false (by rw [R.o];rw [aaV K1.o,Bool.false_and])
end Go.Proofs.YthepmkjggfijoaaGreatDoor
namespace Go.Proofs.YthepmkjggfijoaaGreatDoor
open Go.ChangeShapes Go.WideShapes Go.ChangeAt Go.RowKit Go.MapKept Go.ChangeMaps Mist
theorem GZ (a:Addr)(i j:Nat):(a.add i).add j=a.add (i+j):=by
 unfold Addr.add;by_cases b:i=0 <;> by_cases e:j=0 <;> simp [b,e,Nat.add_assoc]
def A_ (l:Bs):List Value:=l.map fun b=>Value.int .u8 b.toNat
theorem Da (l:Bs):(A_ l).length=l.length:=by simp [A_]
def Y3 (w:World)(v:Value)(l:Bs):Prop:=∃ A c,v=.slice A l.length c∧l.length≤c∧c≤140737488351232∧Reads w w.heap.size 1 A l.length (A_ l)
theorem Y3.none_ (w:World):Y3 w (.slice none 0 0) []:=⟨none,0,rfl,aaJ _,aaL _,Reads.none_⟩
structure URow (w:World) (b o:Nat) (l:Bs):Prop where
 lt:b < w.heap.size
 at_:∀ k,k < l.length→w.cell? ⟨b,o+k,none⟩=some (.int .u8 (gt l k).toNat)
theorem Y3.rowA {w:World}{A:Option Addr}{n c:Nat}{l:Bs}(h:Y3 w (.slice A n c) l)(h0:0 < l.length):∃ b o,A=some ⟨b,o,none⟩∧URow w b o l:=by
 obtain⟨v,y,hv,C,_,u⟩:=h;injection hv with r D t
 subst r;obtain⟨ad,rfl,j,a⟩:=u.2 h0
 have e:∀ k,k < l.length→(A_ l)[k]? = some (.int .u8 (gt l k).toNat):=by
  intro k i;simp [A_,gt,i]
 have g:=a 0 _ (e 0 h0);obtain⟨b,o,q⟩:=ad
 have m:q=none:=by
  cases q with
  | none=>rfl
  | some x =>
   exfalso
   simp only [Addr.add,if_pos] at g
   unfold World.cell? at g
   simp only [Option.isSome_some,if_true] at g
   split at g <;> simp at g
 subst m
 have f:∀ n,(⟨b,o,none⟩:Addr).add n=⟨b,o+n,none⟩:=by
  intro n;unfold Addr.add;split
  ·rename_i h;rw [h];rfl
  ·rfl
 refine⟨b,o,rfl,j,fun k i=>?_⟩
 have:=a k _ (e k i)
 rw [f] at this;exact this
set_option maxRecDepth 100000
theorem GD {H:Type}{enc:TypeId × Value→H}{W:World}{base j:Nat}{v:Value}{d:DataW H}{ps:List MemPlace}{Y:List TypeId}{S:List (DataW H)}
  (F:Value.okWide Tryz.prog W .any base 42 v) (h:DataW.Trod enc Tryz.prog W 0 (fun _=>true) true 42 v d ps)
  (N:(DataW.weightsEach Tryz.prog Y S).all (·≤reachBytes)=true) (ht:Y[j]? = some 42) (hd:S[j]? = some d) :
  ∃ l:Bs,Y3 W v l∧l.length≤4611686018427387904:=by
 obtain⟨R,t,r,rfl⟩:=okWide_slice Tryz.underlying42 F;obtain⟨T,hf⟩:=h;rcases Deep.open_slice Tryz.underlying42 hf with ⟨x,_⟩ | ⟨a,len,g,m,n,D,Pl,x,_,M,U,hm,hx,K⟩
 ·have:(Value.slice R t r)=.slice none 0 0:=by simpa [Value.cells] using x
  rw [this];exact⟨[],Y3.none_ W,by simp⟩
 ·have hv:(Value.slice R t r)=.slice (some a) len g:=by simpa [Value.cells] using x
  rw [hv];have a3:m=g:=by simpa using hm
  have E:∀ i,i < len→∃ b:UInt8,W.cells? 0 (a.add (i * 1)) 1=some [.int .u8 b.toNat]:=by
   intro i hi;obtain⟨G,h1,h2⟩:=K i (by omega);rw [Zh] at h1
   obtain⟨k,hk,a1,L⟩:=DataW.trod_int Tw h2
   have a2:0≤k∧k < 256:=by
    simp [Lit.wf,IntKind.min,IntKind.max,IntKind.signed,IntKind.bits] at L
    omega
   have Z:G=[.int .u8 k]:=by simpa using hk
   refine⟨UInt8.ofNat k.toNat,?_⟩
   rw [h1,Z,UInt8.toNat_ofNat',show ((k.toNat % 2 ^ 8:Nat):Int)=k by omega]
  obtain⟨f,C⟩:=Deep.choose_lt E;have J:d=.slice ((List.range len).map D) ((List.range (m - len)).map fun j=>D (len+j)):=(Prod.mk.inj hx).1;have e:((List.range len).map f).length=len:=by simp
  have Q:=DataW.weights_mem_each (P:=Tryz.prog) ht hd;have y:=aaR.1 N
  have I:g * 1≤reachBytes:=by
   have h1:=y (g * 1) (Q _ (by
    rw [J];simp only [DataW.weights,Tryz.underlying42,List.mem_cons];left
    have hb:Tryz.prog.bytesOf 5=1:=by kernel_rfl
    rw [hb];simp;omega))
   simpa using h1
  have hr:reachBytes=140737488351232:=rfl
  refine⟨(List.range len).map f,?_,by rw [e];omega⟩
  refine⟨some a,g,by rw [e],by rw [e];exact M,by omega,?_⟩
  refine⟨by rw [Da,e];omega,fun h0=>⟨a,rfl,?_,?_⟩⟩
  ·have h1:=C 0 (by omega)
   have:=World.cells?_block h1 (by omega)
   simpa [LV] using this
  ·intro q u X
   have V:q < len:=by
    have h1:=(aaE.1 X).1;rw [Da,e] at h1
    exact h1
   have h1:=(World.cells?_some (C q V)).2.2 0 (by omega);rw [GZ,show q * 1+0=q by omega] at h1
   rw [h1];rw [← X];simp [A_,V]
theorem Y3.seed {w:World}{v:Value}{l:Bs}(h:Y3 w v l):mD w w.heap.size v l:=by
 obtain⟨A,c,rfl,e,f,g⟩:=id h
 refine⟨A,c,rfl,e,by omega,fun h0=>?_⟩
 obtain⟨b,o,rfl,a⟩:=h.rowA (by cases l with | nil=>exact absurd rfl h0 | cons=>simp);exact⟨b,o,rfl,a.lt,a.lt,a.at_⟩
theorem Tv:(Rows.laid_internal_strconv_uint64pow10:DataW Unit)=Lib.tabData IntKind.u64 Lib.pow10Tab:=by kernel_rfl
theorem JD {l : List (String × DataW Unit)} {w : World} (h : laidMet Tryz.prog l w) (a : ("internal/strconv.uint64pow10", Rows.laid_internal_strconv_uint64pow10) ∈ l) : Pow w := by
 rw [Tv] at a
 exact Lib.tabBelow_of_tabIs (PO (g:=1) (t:=191) (e:=174) (n:=20) (by kernel_rfl) (by kernel_rfl) (by kernel_rfl) (by kernel_rfl) (by kernel_rfl) (by kernel_rfl) h a)
end Go.Proofs.YthepmkjggfijoaaGreatDoor
