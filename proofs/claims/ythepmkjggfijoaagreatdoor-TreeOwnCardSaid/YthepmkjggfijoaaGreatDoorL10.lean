/-
  A part of the proof.
-/
import Derived.Test.YthepmkjggfijoaaGreatDoorSA
import Derived.BigQuiet
import Derived.Test.YthepmkjggfijoaaGreatDoorS22
import Derived.Test.YthepmkjggfijoaaGreatDoorS32
import Derived.Test.YthepmkjggfijoaaGreatDoorL09
set_option linter.all false
set_option maxRecDepth 100000
set_option maxHeartbeats 4000000
namespace Go.Proofs.YthepmkjggfijoaaGreatDoor
open Go.RowKit Mist
attribute [local go_sem] aj aH aS aB ak
theorem Zq {i:Bool}{g:Nat}{iv:Value}{w0 w:World}{s:bB}{xs:List NV}{nv lv:Value}{its:List Int}(H:Hid (dM g i iv w s xs nv lv))(b:Hid (jA w0 w xs iv its))(hw:w0.heap.size≤w.heap.size)(hg:g < w0.heap.size)(a4:its.length≤1000)(hn:s.ns.length≤100000)(P:s.nx % 7=6) :
  Calls Tryz.prog 72 #[.pointer (some ⟨g,0,none⟩)] w (lg g i w0 w its (dH i s)):=by
 obtain⟨Ai,ci,D⟩:=dh b.o.row;subst D;obtain⟨j0,E,I,J,K⟩:=info_parts gN;have Ql:=O fun (row:Option Nat) (w':World) (m:Mv g nv.ownBlock w row w')=>H.o.low m
 have M:=O (iK.refl (g:=g) (w:=w) (xs:=xs) (nv:=nv));have NU:=O (cB.lt b.o.row);have L6:Int.tmod (s.nx:Int) 7=6:=by rw [Int.tmod_eq_emod_of_nonneg (by omega)];omega
 have L:=O (show cO i s=o8 i (1+s.tl.tl.nx % 8) s.tl.tl.tl by unfold cO;simp only;rw [if_neg (by omega),if_neg (by omega),if_neg (by omega),if_neg (by omega),if_neg (by omega),if_neg (by omega)]);have C:=P;go_in
 go_wp2_with fail;refine (xP H M).mono ?_;clear H M;rintro e w1⟨nX,rfl,q1,H,M,R⟩
 replace b:=kp R b
 clear R;go_wp2_with fail;refine (xP H M).mono ?_;clear H M;rintro e w2⟨Ap,rfl,q2,H,M,R⟩
 replace b:=kp R b
 clear R;go_wp2_with fail;refine (Nk (s.tl.nx) _).mono ?_;rintro e w3⟨x,rfl,Hx,lx,rfl⟩;clear P;obtain⟨q,F⟩:∃ m,m=(s.tl.tl).nx % 8:=⟨_,rfl⟩;have zq:Int.tmod ((s.tl.tl).nx:Int) 8=(q:Int):=by rw [Int.tmod_eq_emod_of_nonneg (by omega),F];omega
 have n:=O F.symm;have a0:q≤7:=by omega
 clear F;have yq:IntKind.i64.wrap (1+(q:Int))=((1+q:Nat):Int):=by rw [IntWalk.i64_in _ (by omega)];omega
 have Jk:=O (show dY s=if 1+q=7 then [32] else [] from by
  unfold dY;rw [n.o];by_cases h6:q=6
  ·rw [if_pos ⟨C,h6⟩,if_pos (by omega)]
  ·rw [if_neg (fun h=>h6 h.2),if_neg (by omega)])
 rw [n.o] at L
 go_wp2_with fail;refine (xP H M).mono ?_;clear H M;rintro e w4⟨GU,rfl,q4,H,M,R⟩
 replace b:=kp R b
 clear R;go_wp2_with fail;refine (akH H M (q:=1+q) (by omega) (by omega) (by omega)).mono ?_;clear H M;rintro e w5⟨l,Y,a7,Fu,QB,rfl,jX,HY,zR,H,M,R⟩
 replace b:=kp R b
 clear R
 have T:aN l.pc ++ dY s=Y:=by
  rw [Jk.o,HY.o]
 have X:=O T;clear T;obtain⟨id,S⟩:∃ id,Hid (l.ix=id):=⟨_,O rfl⟩;rw [S.o];have k:=(b.o.alloc (.cells #[.int .i64 id] 3)).row;have y:=O k;have cI:=H.o.blk.cell 2;clear k;go_wp2_with (at_builtin;go_loud (refine wpList_append_lies _ rfl (.tmp 234) (.tmp 236) 24 rfl 0 3 j0 (.int .i64 0) 1 8 Tryz.underlying24 E I J K rfl (by decide) _ its.length (intCells its) rfl y.o ⟨w5.heap.size,0,none⟩ 1 1 [.int .i64 id] rfl rfl (cell_one_new _ _ _) (by intro u Q;simp at Q;subst Q;rfl) (by omega) (by simp only [maxLen];omega) (by omega) (aaL _) _ rfl ?_);intro gg a2 Tx j f r a6;obtain⟨v,t,Z,V⟩:=V4 H M rfl Ql b hw hg j f r;have a1:=v.cell 2;have a3:=v.frozen 2;clear j f r v)
 refine (dF g i _ _ (l.st) _ _ _ t.o).mono ?_;rintro e Sn⟨rfl,GV,h,m⟩;have H5:=O h;have L5:=O (Z.o.mv t.o m);have U:=O (V.o.trans (t.o.low m));clear h m;have W:=eD i (l.st);obtain⟨G,N⟩:∃ G,Hid (bG i (l.st)=G):=⟨_,O rfl⟩;rw [N.o] at W ⊢
 have Yw:¬ 9223372036854775807 < Y.length+G.length:=by omega
 have YG:¬ 9223372036854775807 < Y.length+G.length+1:=by omega
 go_wp2_with fail;go_ret;exact V8 (a:=l) (L.o.trans jX.o) X.o N.o S.o (by first|(rw [← ak];rfl)|(rw [← ak,← ak];rfl)) H5.o L5.o U.o
theorem Zt {i:Bool}{g:Nat}{iv:Value}{w0 w:World}{s:bB}{xs:List NV}{nv lv:Value}{its:List Int}(H:Hid (dM g i iv w s xs nv lv))(j:Hid (jA w0 w xs iv its))(hw:w0.heap.size≤w.heap.size)(hg:g < w0.heap.size)(g7:its.length≤1000)(hn:s.ns.length≤100000)(hb:s.nx % 7=2) :
  Calls Tryz.prog 72 #[.pointer (some ⟨g,0,none⟩)] w (lg g i w0 w its (dH i s)):=by
 obtain⟨Ai,ci,d5⟩:=dh j.o.row;subst d5;obtain⟨j0,a0,a1,a2,a3⟩:=info_parts gN;have Ql:=O fun (row:Option Nat) (w':World) (m:Mv g nv.ownBlock w row w')=>H.o.low m
 have M:=O (iK.refl (g:=g) (w:=w) (xs:=xs) (nv:=nv));have NU:=O (cB.lt j.o.row);obtain⟨E,SN⟩:∃ E,Hid (bA i 4=E):=⟨_,O rfl⟩;have X:=O (SA i);rw [SN.o] at X
 have L6:Int.tmod (s.nx:Int) 7=2:=by rw [Int.tmod_eq_emod_of_nonneg (by omega)];omega
 have HB:=O (show cO i s=zS i (aY s.tl.nx) s.tl.tl by unfold cO;simp only;rw [if_neg (by omega),if_neg (by omega),if_pos hb]);have Jk:=O (show dY s=[] from if_neg (fun h=>by omega));go_in
 go_wp2_with fail;refine (xP H M).mono ?_;clear H M;rintro e w1⟨nX,rfl,q1,H,M,R⟩
 replace j:=kp R j
 clear R;go_wp2_with fail;refine (xP H M).mono ?_;clear H M;rintro e w2⟨Ap,rfl,q2,H,M,R⟩
 replace j:=kp R j
 clear R;go_wp2_with fail;refine (Nk (s.tl.nx) _).mono ?_;rintro e w3⟨x,rfl,Hx,lx,rfl⟩;rw [Hx.o] at HB
 clear hb;obtain⟨m5,a9⟩:∃ m,m=(s.tl.tl).nx % 5:=⟨_,rfl⟩;have j5:Int.tmod ((s.tl.tl).nx:Int) 5=(m5:Int):=by rw [Int.tmod_eq_emod_of_nonneg (by omega),a9];omega
 have b6:=O a9.symm;have g0:m5≤4:=by omega
 clear a9;go_wp2_with fail;refine (xP H M).mono ?_;clear H M;rintro e w4⟨GU,rfl,q4,H,M,R⟩
 replace j:=kp R j
 clear R;go_wp2_with fail;refine (prH H M (m:=m5) (by omega) (by omega)).mono ?_;clear H M;rintro e w5⟨I,l,A5,c5,i8,Fu,QB,rfl,jX,zO,i5,g1,e5,r,H,M,R⟩
 replace j:=kp R j
 clear R;go_wp2_with fail;refine (kdH H M (by omega)).mono ?_;clear H M;rintro e w6⟨t,J,i9,XB,g9,rfl,ow,b4,f9,i6,g2,H,M,R⟩
 replace j:=kp R j
 replace r:=kp R r
 clear R;obtain⟨q,hq⟩:∃ m,m=(t.st).nx % 12:=⟨_,rfl⟩;have zq:Int.tmod ((t.st).nx:Int) 12=(q:Int):=by rw [Int.tmod_eq_emod_of_nonneg (by omega),hq];omega
 have c6:=O hq.symm;have f8:q≤11:=by omega
 clear hq;have b5:=O (show mV t.st=if 8 < q then 0 else q by unfold mV;rw [c6.o]);go_wp2_with fail;refine (xP H M).mono ?_;clear H M;rintro e w7⟨i0,rfl,q7,H,M,R⟩
 replace j:=kp R j
 replace r:=kp R r
 clear R;by_cases b0:8 < q∨q=0
 ·have d6:(8 < q∧(q:Int) > 8∧8 < (q:Int))∨q=0:=by omega
  rcases d6 with ⟨z0,z1,z2⟩ | rfl
  all_goals
   have a5:=O (show mV t.st=0 by rw [b5.o];first | rfl|(split <;> omega));go_wp2_with fail;refine (Gq H M X (by omega)).mono ?_;clear H M;rintro e w8⟨F,T8,j1,V_,d7,rfl,zL,c4,f6,i7,g3,H,M,R⟩
   replace j:=kp R j
   replace r:=kp R r
   clear R;go_wp2_with fail;refine (vD H M).mono ?_;clear H M;rintro e w9⟨y,i1,rfl,c2,DT,f7,H,M,R⟩
   replace j:=kp R j
   replace r:=kp R r
   clear R;have wI:¬ 9223372036854775807 < 3+y.length:=by omega
   have wK:¬ 9223372036854775807 < 3+y.length+x.length:=by omega
   have Eu:¬ 9223372036854775807 < 3+y.length+x.length+1:=by omega
   have Ey:¬ 9223372036854775807 < 3+y.length+x.length+1+l.length:=by omega
   have OI:¬ 9223372036854775807 < 3+y.length+x.length+1+l.length+1:=by omega
   go_wp2_with fail;refine (vD H M).mono ?_;clear H M;rintro e Qv⟨P,Y5,rfl,NS,e2,i2,H,M,R⟩
   replace j:=kp R j
   replace r:=kp R r
   clear R;clear wI wK Eu Ey OI;have wL:¬ 9223372036854775807 < 3+y.length:=by omega
   have wN:¬ 9223372036854775807 < 3+y.length+x.length:=by omega
   have wO:¬ 9223372036854775807 < 3+y.length+x.length+1:=by omega
   have wP:¬ 9223372036854775807 < 3+y.length+x.length+1+l.length:=by omega
   have AL:¬ 9223372036854775807 < 3+y.length+x.length+1+l.length+1:=by omega
   have EC:¬ 9223372036854775807 < 3+y.length+x.length+1+l.length+1+P.length:=by omega
   have OO:¬ 9223372036854775807 < 3+y.length+x.length+1+l.length+1+P.length+1:=by omega
   have OP:¬ 9223372036854775807 < 3+y.length+x.length+1+l.length+1+P.length+1+J.length:=by omega
   have OQ:¬ 9223372036854775807 < 3+y.length+x.length+1+l.length+1+P.length+1+J.length+0:=by omega
   go_wp2_with fail;refine (vD H M).mono ?_;clear H M;rintro e Et⟨k,c1,rfl,Wy,b9,d8,H,M,R⟩
   replace j:=kp R j
   replace r:=kp R r
   clear R;clear wL wN wO wP AL EC OO OP OQ;have EK:¬ 9223372036854775807 < 3+y.length:=by omega
   have EM:¬ 9223372036854775807 < 3+y.length+x.length:=by omega
   have Gp:¬ 9223372036854775807 < 3+y.length+x.length+1:=by omega
   have Gy:¬ 9223372036854775807 < 3+y.length+x.length+1+l.length:=by omega
   have Yt:¬ 9223372036854775807 < 3+y.length+x.length+1+l.length+1:=by omega
   have c9:¬ 9223372036854775807 < 3+y.length+x.length+1+l.length+1+P.length:=by omega
   have d0:¬ 9223372036854775807 < 3+y.length+x.length+1+l.length+1+P.length+1:=by omega
   have d1:¬ 9223372036854775807 < 3+y.length+x.length+1+l.length+1+P.length+1+J.length:=by omega
   have d2:¬ 9223372036854775807 < 3+y.length+x.length+1+l.length+1+P.length+1+J.length+0:=by omega
   have d3:¬ 9223372036854775807 < 3+y.length+x.length+1+l.length+1+P.length+1+J.length+0+k.length:=by omega
   have b7:¬ 9223372036854775807 < 3+y.length+x.length+1+l.length+1+P.length+1+J.length+0+k.length+1:=by omega
   have b8:¬ 9223372036854775807 < 3+y.length+x.length+1+l.length+1+P.length+1+J.length+0+k.length+1+T8.length:=by omega
   have Q:=O (r.o.alloc (.cells #[.int .i64 t.ix,.int .i64 F.ix] 3));have IA:=O (j.o.alloc (.cells #[.int .i64 t.ix,.int .i64 F.ix] 3));have HA:=O (H.o.alloc (.cells #[.int .i64 t.ix,.int .i64 F.ix] 3));have MA:=O (M.o.dD (o:=.cells #[.int .i64 t.ix,.int .i64 F.ix] 3));have W:=MA.o.size;have S:=O (Em NU.o r.o.lo);have K:=O fun b hb=>Nat.le_trans (aaK (aaW hg hw)) (r.o.lo b hb)
   clear r j H M;go_wp2_with (at_builtin;go_loud (refine wpList_append_lies _ rfl (.tmp 169) (.tmp 172) 24 rfl 0 3 j0 (.int .i64 0) 1 8 Tryz.underlying24 a0 a1 a2 a3 rfl (by decide) _ I.ix.length (intCells I.ix) rfl Q.o.row ⟨Et.heap.size,0,none⟩ 2 2 [.int .i64 t.ix,.int .i64 F.ix] rfl rfl (iP _ [.int .i64 t.ix,.int .i64 F.ix] _) (by intro u Z;simp at Z;rcases Z with rfl | rfl <;> rfl) (by omega) (by simp only [maxLen];omega) (by omega) (aaL _) _ rfl ?_);intro GA AJ Tx v f C T;have r:=O (Q.o.grows (js:=[t.ix,F.ix]) HA.o v C W);have j:=O (IA.o.keep f S.o);have H:=O (HA.o.grow Q.o f K.o);have M:=O (MA.o.grow Q.o f);clear v f C T)
   clear Q IA HA MA W S K;obtain⟨Y,HY⟩:∃ Y:Bs,Hid ([102,117,110] ++ y ++ x ++ [40] ++ l ++ [41] ++ P ++ [58] ++ J ++ [] ++ k ++ [61] ++ T8=Y):=⟨_,O rfl⟩;rw [show (⟨#[102,117,110]⟩:ByteArray) ++ aM (y) ++ aM (x) ++ (⟨#[40]⟩:ByteArray) ++ aM (l) ++ (⟨#[41]⟩:ByteArray) ++ aM (P) ++ (⟨#[58]⟩:ByteArray) ++ aM (J) ++ (⟨#[]⟩:ByteArray) ++ aM (k) ++ (⟨#[61]⟩:ByteArray) ++ aM (T8)=aM Y from by rw [← HY.o] <;> (simp only [← ak];rfl)];have zR:Y.length≤10000000:=by rw [← HY.o];simp only [aaO,List.length_cons,List.length_nil];omega
   refine (Wd H M r (by omega)).mono ?_;clear H M;rintro e wQ⟨Dr,uL,rfl,H,M,R⟩
   replace j:=O (R.o _ _ _ NU.o j.o)
   clear R
   have HF:=O (show zS i x s.tl.tl=bJ (([],3,[102,117,110]) :: (y,1,x) :: bR [40] :: (I.pc ++ bR [41] :: (P,4,[58]) :: (t.pc ++ (([]:bN) ++ (k,4,[61]) :: F.pc)))) (aO i (aO i (aO i (F.st)))) ⟨42,x,0,(I.ix ++ [t.ix,F.ix]),0⟩ from by
    unfold zS
    try simp only
    rw [b6.o,jX.o,ow.o,a5.o,if_neg (Nat.lt_irrefl 0),if_neg (Nat.lt_irrefl 0),SN.o,zL.o,c2.o,NS.o,Wy.o] <;> rfl)
   have wF:aN (([],3,[102,117,110]) :: (y,1,x) :: bR [40] :: (I.pc ++ bR [41] :: (P,4,[58]) :: (t.pc ++ (([]:bN) ++ (k,4,[61]) :: F.pc)))) ++ dY s=Y:=by
    rw [Jk.o,List.append_nil];simp only [aN,qZ,bR];rw [zO.o,b4.o,c4.o,← HY.o] <;> simp only [List.nil_append,List.append_nil,List.append_assoc,List.cons_append]
   have Gr:=O wF;clear wF;obtain⟨id,qP⟩:∃ id,Hid (bB.id (aO i (aO i (aO i (F.st))))=id):=⟨_,O rfl⟩;rw [qP.o];have L:=(j.o.alloc (.cells #[.int .i64 id] 3)).row;have a4:=O L;have cI:=H.o.blk.cell 2;clear L;go_wp2_with (at_builtin;go_loud (refine wpList_append_lies _ rfl (.tmp 234) (.tmp 236) 24 rfl 0 3 j0 (.int .i64 0) 1 8 Tryz.underlying24 a0 a1 a2 a3 rfl (by decide) _ its.length (intCells its) rfl a4.o ⟨wQ.heap.size,0,none⟩ 1 1 [.int .i64 id] rfl rfl (cell_one_new _ _ _) (by intro u Z;simp at Z;subst Z;rfl) (by omega) (by simp only [maxLen];omega) (by omega) (aaL _) _ rfl ?_);intro gg c8 Tx v f C T;obtain⟨HK,H9,Gu,B9⟩:=V4 H M rfl Ql j hw hg v f C;have c7:=HK.cell 2;have d4:=HK.frozen 2;clear v f C HK)
   refine (dF g i _ _ ((aO i (aO i (aO i (F.st)))).put ⟨42,x,0,(I.ix ++ [t.ix,F.ix]),0⟩) _ _ _ H9.o).mono ?_;rintro e Sn⟨rfl,GV,h,m⟩;have H5:=O h;have L5:=O (Gu.o.mv H9.o m);have B5:=O (B9.o.trans (H9.o.low m));clear h m;have DT:=eD i ((aO i (aO i (aO i (F.st)))).put ⟨42,x,0,(I.ix ++ [t.ix,F.ix]),0⟩);obtain⟨G,HG⟩:∃ G,Hid (bG i ((aO i (aO i (aO i (F.st)))).put ⟨42,x,0,(I.ix ++ [t.ix,F.ix]),0⟩)=G):=⟨_,O rfl⟩;rw [HG.o] at DT ⊢
   have Yw:¬ 9223372036854775807 < Y.length+G.length:=by omega
   have YG:¬ 9223372036854775807 < Y.length+G.length+1:=by omega
   go_wp2_with fail;go_ret;exact V8 (a:=bJ (([],3,[102,117,110]) :: (y,1,x) :: bR [40] :: (I.pc ++ bR [41] :: (P,4,[58]) :: (t.pc ++ (([]:bN) ++ (k,4,[61]) :: F.pc)))) (aO i (aO i (aO i (F.st)))) ⟨42,x,0,(I.ix ++ [t.ix,F.ix]),0⟩) (HB.o.trans HF.o) Gr.o HG.o qP.o (by first|(rw [← ak];rfl)|(rw [← ak,← ak];rfl)) H5.o L5.o B5.o
 ·have h8:¬ 8 < q:=fun h=>b0 (.inl h)
  have h0:0 < q:=Nat.pos_of_ne_zero fun h=>b0 (.inr h)
  clear b0;have f4:¬ (q:Int) > 8:=by omega
  have z0:(q:Int) > 0:=by omega
  have j3:¬ 8 < (q:Int):=by omega
  have j2:0 < (q:Int):=by omega
  have a5:=O (show mV t.st=q by rw [b5.o,if_neg h8]);have c0:=uS ⟨q,by omega⟩;simp only at c0
  go_wp2_with fail;refine (vD H M).mono ?_;clear H M;rintro e w8⟨oI,d7,rfl,Wz,g6,q8,H,M,R⟩
  replace j:=kp R j
  replace r:=kp R r
  clear R;go_wp2_with fail;refine (itH H M (n:=(q:Int)) (by omega) (by omega)).mono ?_;clear H M;rintro e w9⟨U,rfl,HU,H,M,R⟩
  replace j:=kp R j
  replace r:=kp R r
  clear R;rw [HU.o] at c0
  have g4:¬ 9223372036854775807 < 5+oI.length:=by omega
  have g5:¬ 9223372036854775807 < 5+oI.length+U.length:=by omega
  go_wp2_with fail;obtain⟨V,HV⟩:∃ Y:Bs,Hid ([32,117,112,116,111] ++ oI ++ U=Y):=⟨_,O rfl⟩;rw [show (⟨#[32,117,112,116,111]⟩:ByteArray) ++ aM (oI) ++ aM (U)=aM V from by rw [← HV.o] <;> (simp only [← ak];rfl)];have f5:V.length≤10000000:=by rw [← HV.o];simp only [aaO,List.length_cons,List.length_nil];omega
  have g8:V.length≤30:=by rw [← HV.o];simp only [aaO,List.length_cons,List.length_nil];omega
  refine (Gq H M X (by omega)).mono ?_;clear H M;rintro e Qv⟨D,a7,f1,e8,Y5,rfl,vO,b3,f3,f0,e1,H,M,R⟩
  replace j:=kp R j
  replace r:=kp R r
  clear R;go_wp2_with fail;refine (vD H M).mono ?_;clear H M;rintro e Et⟨k,c1,rfl,Wy,b9,d8,H,M,R⟩
  replace j:=kp R j
  replace r:=kp R r
  clear R;have wI:¬ 9223372036854775807 < 3+k.length:=by omega
  have wK:¬ 9223372036854775807 < 3+k.length+x.length:=by omega
  have Eu:¬ 9223372036854775807 < 3+k.length+x.length+1:=by omega
  have Ey:¬ 9223372036854775807 < 3+k.length+x.length+1+l.length:=by omega
  have OI:¬ 9223372036854775807 < 3+k.length+x.length+1+l.length+1:=by omega
  go_wp2_with fail;refine (vD H M).mono ?_;clear H M;rintro e wQ⟨N,e6,rfl,b1,e3,i3,H,M,R⟩
  replace j:=kp R j
  replace r:=kp R r
  clear R;clear wI wK Eu Ey OI;have wL:¬ 9223372036854775807 < 3+k.length:=by omega
  have wN:¬ 9223372036854775807 < 3+k.length+x.length:=by omega
  have wO:¬ 9223372036854775807 < 3+k.length+x.length+1:=by omega
  have wP:¬ 9223372036854775807 < 3+k.length+x.length+1+l.length:=by omega
  have AL:¬ 9223372036854775807 < 3+k.length+x.length+1+l.length+1:=by omega
  have EC:¬ 9223372036854775807 < 3+k.length+x.length+1+l.length+1+N.length:=by omega
  have OO:¬ 9223372036854775807 < 3+k.length+x.length+1+l.length+1+N.length+1:=by omega
  have OP:¬ 9223372036854775807 < 3+k.length+x.length+1+l.length+1+N.length+1+J.length:=by omega
  have OQ:¬ 9223372036854775807 < 3+k.length+x.length+1+l.length+1+N.length+1+J.length+V.length:=by omega
  go_wp2_with fail;refine (vD H M).mono ?_;clear H M;rintro e e0⟨Vy,e7,rfl,b2,e4,i4,H,M,R⟩
  replace j:=kp R j
  replace r:=kp R r
  clear R;clear wL wN wO wP AL EC OO OP OQ;have EK:¬ 9223372036854775807 < 3+k.length:=by omega
  have EM:¬ 9223372036854775807 < 3+k.length+x.length:=by omega
  have Gp:¬ 9223372036854775807 < 3+k.length+x.length+1:=by omega
  have Gy:¬ 9223372036854775807 < 3+k.length+x.length+1+l.length:=by omega
  have Yt:¬ 9223372036854775807 < 3+k.length+x.length+1+l.length+1:=by omega
  have c9:¬ 9223372036854775807 < 3+k.length+x.length+1+l.length+1+N.length:=by omega
  have d0:¬ 9223372036854775807 < 3+k.length+x.length+1+l.length+1+N.length+1:=by omega
  have d1:¬ 9223372036854775807 < 3+k.length+x.length+1+l.length+1+N.length+1+J.length:=by omega
  have d2:¬ 9223372036854775807 < 3+k.length+x.length+1+l.length+1+N.length+1+J.length+V.length:=by omega
  have d3:¬ 9223372036854775807 < 3+k.length+x.length+1+l.length+1+N.length+1+J.length+V.length+Vy.length:=by omega
  have b7:¬ 9223372036854775807 < 3+k.length+x.length+1+l.length+1+N.length+1+J.length+V.length+Vy.length+1:=by omega
  have b8:¬ 9223372036854775807 < 3+k.length+x.length+1+l.length+1+N.length+1+J.length+V.length+Vy.length+1+a7.length:=by omega
  have Q:=O (r.o.alloc (.cells #[.int .i64 t.ix,.int .i64 D.ix] 3));have IA:=O (j.o.alloc (.cells #[.int .i64 t.ix,.int .i64 D.ix] 3));have HA:=O (H.o.alloc (.cells #[.int .i64 t.ix,.int .i64 D.ix] 3));have MA:=O (M.o.dD (o:=.cells #[.int .i64 t.ix,.int .i64 D.ix] 3));have W:=MA.o.size;have S:=O (Em NU.o r.o.lo);have K:=O fun b hb=>Nat.le_trans (aaK (aaW hg hw)) (r.o.lo b hb)
  clear r j H M;go_wp2_with (at_builtin;go_loud (refine wpList_append_lies _ rfl (.tmp 169) (.tmp 172) 24 rfl 0 3 j0 (.int .i64 0) 1 8 Tryz.underlying24 a0 a1 a2 a3 rfl (by decide) _ I.ix.length (intCells I.ix) rfl Q.o.row ⟨e0.heap.size,0,none⟩ 2 2 [.int .i64 t.ix,.int .i64 D.ix] rfl rfl (iP _ [.int .i64 t.ix,.int .i64 D.ix] _) (by intro u Z;simp at Z;rcases Z with rfl | rfl <;> rfl) (by omega) (by simp only [maxLen];omega) (by omega) (aaL _) _ rfl ?_);intro GA AJ Tx v f C T;have r:=O (Q.o.grows (js:=[t.ix,D.ix]) HA.o v C W);have j:=O (IA.o.keep f S.o);have H:=O (HA.o.grow Q.o f K.o);have M:=O (MA.o.grow Q.o f);clear v f C T)
  clear Q IA HA MA W S K;obtain⟨Y,HY⟩:∃ Y:Bs,Hid ([102,117,110] ++ k ++ x ++ [40] ++ l ++ [41] ++ N ++ [58] ++ J ++ V ++ Vy ++ [61] ++ a7=Y):=⟨_,O rfl⟩;rw [show (⟨#[102,117,110]⟩:ByteArray) ++ aM (k) ++ aM (x) ++ (⟨#[40]⟩:ByteArray) ++ aM (l) ++ (⟨#[41]⟩:ByteArray) ++ aM (N) ++ (⟨#[58]⟩:ByteArray) ++ aM (J) ++ aM (V) ++ aM (Vy) ++ (⟨#[61]⟩:ByteArray) ++ aM (a7)=aM Y from by rw [← HY.o] <;> (simp only [← ak];rfl)];have zR:Y.length≤10000000:=by rw [← HY.o];simp only [aaO,List.length_cons,List.length_nil];omega
  refine (Wd H M r (by omega)).mono ?_;clear H M;rintro e Tx⟨f2,e9,rfl,H,M,R⟩
  replace j:=O (R.o _ _ _ NU.o j.o)
  clear R
  have HF:=O (show zS i x s.tl.tl=bJ (([],3,[102,117,110]) :: (k,1,x) :: bR [40] :: (I.pc ++ bR [41] :: (N,4,[58]) :: (t.pc ++ ([([32],3,[117,112,116,111]),(oI,2,U)] ++ (Vy,4,[61]) :: D.pc)))) (aO i (aO i (aO i (D.st)))) ⟨42,x,(q:Int),(I.ix ++ [t.ix,D.ix]),0⟩ from by
   unfold zS
   try simp only
   rw [b6.o,jX.o,ow.o,a5.o,if_pos h0,if_pos h0,Wz.o,HU.o,SN.o,vO.o,Wy.o,b1.o,b2.o] <;> rfl)
  have wF:aN (([],3,[102,117,110]) :: (k,1,x) :: bR [40] :: (I.pc ++ bR [41] :: (N,4,[58]) :: (t.pc ++ ([([32],3,[117,112,116,111]),(oI,2,U)] ++ (Vy,4,[61]) :: D.pc)))) ++ dY s=Y:=by
   rw [Jk.o,List.append_nil];simp only [aN,qZ,bR];rw [zO.o,b4.o,b3.o,← HY.o,← HV.o] <;> simp only [List.nil_append,List.append_nil,List.append_assoc,List.cons_append]
  have Gr:=O wF;clear wF;obtain⟨id,qP⟩:∃ id,Hid (bB.id (aO i (aO i (aO i (D.st))))=id):=⟨_,O rfl⟩;rw [qP.o];have L:=(j.o.alloc (.cells #[.int .i64 id] 3)).row;have a4:=O L;have cI:=H.o.blk.cell 2;clear L;go_wp2_with (at_builtin;go_loud (refine wpList_append_lies _ rfl (.tmp 234) (.tmp 236) 24 rfl 0 3 j0 (.int .i64 0) 1 8 Tryz.underlying24 a0 a1 a2 a3 rfl (by decide) _ its.length (intCells its) rfl a4.o ⟨Tx.heap.size,0,none⟩ 1 1 [.int .i64 id] rfl rfl (cell_one_new _ _ _) (by intro u Z;simp at Z;subst Z;rfl) (by omega) (by simp only [maxLen];omega) (by omega) (aaL _) _ rfl ?_);intro gg c8 Tx v f C T;obtain⟨HK,H9,Gu,B9⟩:=V4 H M rfl Ql j hw hg v f C;have c7:=HK.cell 2;have d4:=HK.frozen 2;clear v f C HK)
  refine (dF g i _ _ ((aO i (aO i (aO i (D.st)))).put ⟨42,x,(q:Int),(I.ix ++ [t.ix,D.ix]),0⟩) _ _ _ H9.o).mono ?_;rintro e Sn⟨rfl,GV,h,m⟩;have H5:=O h;have L5:=O (Gu.o.mv H9.o m);have B5:=O (B9.o.trans (H9.o.low m));clear h m;have DT:=eD i ((aO i (aO i (aO i (D.st)))).put ⟨42,x,(q:Int),(I.ix ++ [t.ix,D.ix]),0⟩);obtain⟨G,HG⟩:∃ G,Hid (bG i ((aO i (aO i (aO i (D.st)))).put ⟨42,x,(q:Int),(I.ix ++ [t.ix,D.ix]),0⟩)=G):=⟨_,O rfl⟩;rw [HG.o] at DT ⊢
  have Yw:¬ 9223372036854775807 < Y.length+G.length:=by omega
  have YG:¬ 9223372036854775807 < Y.length+G.length+1:=by omega
  go_wp2_with fail;go_ret;exact V8 (a:=bJ (([],3,[102,117,110]) :: (k,1,x) :: bR [40] :: (I.pc ++ bR [41] :: (N,4,[58]) :: (t.pc ++ ([([32],3,[117,112,116,111]),(oI,2,U)] ++ (Vy,4,[61]) :: D.pc)))) (aO i (aO i (aO i (D.st)))) ⟨42,x,(q:Int),(I.ix ++ [t.ix,D.ix]),0⟩) (HB.o.trans HF.o) Gr.o HG.o qP.o (by first|(rw [← ak];rfl)|(rw [← ak,← ak];rfl)) H5.o L5.o B5.o
end Go.Proofs.YthepmkjggfijoaaGreatDoor
namespace Go.Proofs.YthepmkjggfijoaaGreatDoor
open Go.RowKit Mist
theorem Vf (k:Bool)(g:Nat)(iv:Value)(w0 w:World)(s:bB)(xs:List NV)(nv lv:Value)(its:List Int)(h:dM g k iv w s xs nv lv)(e:jA w0 w xs iv its)(j:w0.heap.size≤w.heap.size)(f:g < w0.heap.size)(a:its.length≤1000)(i:s.ns.length≤100000) :
  Calls Tryz.prog 72 #[.pointer (some ⟨g,0,none⟩)] w (lg g k w0 w its (dH k s)):=by
 have h7:s.nx % 7 < 7:=Nat.mod_lt _ (by decide);obtain b | b | b | b | b | b | b:s.nx % 7=0∨s.nx % 7=1∨s.nx % 7=2∨s.nx % 7=3∨s.nx % 7=4∨s.nx % 7=5∨s.nx % 7=6:=by omega
 ·exact MS (O h) (O e) j f a i b
 ·exact Va (O h) (O e) j f a i b
 ·exact Zt (O h) (O e) j f a i b
 ·exact U9 (O h) (O e) j f a i b
 ·exact H8 (O h) (O e) j f a i b
 ·exact Ie (O h) (O e) j f a i b
 ·exact Zq (O h) (O e) j f a i b
end Go.Proofs.YthepmkjggfijoaaGreatDoor
namespace Go.Proofs.YthepmkjggfijoaaGreatDoor
open Go.RowKit Mist
attribute [local go_sem] aj aH aS aB ak
def GH (r:oG):Bs:=aN r.pc ++ (if r.ix=[] then [] else [10])
theorem LU (a:Bool)(m:Nat){r:oG}(h:r.st.left=[]):jH a m r=r:=by
 cases m with
 | zero=>rfl
 | succ m=>rw [jH,if_pos h]
def pz (ay:Bool)(r:oG):oG:=⟨r.pc ++ (if r.ix=[] then (dH ay r.st).pc else bN.on [10] (dH ay r.st).pc),r.ix ++ [(dH ay r.st).ix],(dH ay r.st).st⟩
theorem LZ (a:Bool)(m:Nat){r:oG}(h:r.st.left ≠ []):jH a (m+1) r=jH a m (pz a r):=by
 rw [jH,if_neg h];rfl
theorem CQ (a:Bool)(r:oG)(h:r.ix=[]→r.pc=[]):GH (pz a r)=GH r ++ (aN (dH a r.st).pc ++ [10]):=by
 have b:=(BU a r.st).2
 show aN (r.pc ++ (if r.ix=[] then (dH a r.st).pc else bN.on [10] (dH a r.st).pc)) ++ (if r.ix ++ [(dH a r.st).ix]=[] then [] else [10])=aN r.pc ++ (if r.ix=[] then [] else [10]) ++ (aN (dH a r.st).pc ++ [10])
 have e:¬ (r.ix ++ [(dH a r.st).ix]=[]):=by simp
 rw [if_neg e,qZ];by_cases h0:r.ix=[]
 ·rw [if_pos h0,if_pos h0,h h0];simp only [aN,List.nil_append,List.append_nil,List.append_assoc]
 ·rw [if_neg h0,if_neg h0,b.text];simp only [List.append_assoc]
theorem Sd (a:Bool)(r:oG)(h:r.ix=[]→r.pc=[]):(GH (pz a r)).length≤(GH r).length+12001∧(pz a r).st.ns.length≤r.st.ns.length+900:=by
 obtain⟨h1,h2⟩:=Fv a r.st
 refine⟨?_,h2⟩
 rw [CQ a r h,aaO,aaO];have h1:(aN (dH a r.st).pc).length≤12000:=h1
 show _+(_+1)≤_
 omega
def Es (t:Bs):Nat:=(t.filter fun b=>!(b == 32) && !(b == 10)).length
theorem JE (t:Bs):Es t≤t.length:=List.length_filter_le _ _
theorem Lf {t:Bs}{k:Nat}(e:k < t.length):Es (t.take (k+1))=Es (t.take k)+if (gt t k == 32 || gt t k == 10)=true then 0 else 1:=by
 have a:t[k]? = some (gt t k):=by unfold gt;rw [aaH,aaD e];rfl
 unfold Es;rw [List.take_add_one,a,List.filter_append,aaO]
 generalize gt t k=b
 show _+(List.filter _ [b]).length=_
 cases h1:b == 32 <;> cases h2:b == 10 <;> simp [h1,h2]
theorem CY (a:Bool)(b:Bs):bZ a b=GH (grown a b):=rfl
theorem XR (b:UInt8):(if (b == 32 || b == 10)=true then 0 else 1)=if b.toNat=32∨b.toNat=10 then 0 else 1:=by
 have e:∀ k:UInt8,(b == k)=decide (b.toNat=k.toNat):=fun k=>by
  by_cases h:b=k
  ·subst h;simp
  ·have h2:¬ b.toNat=k.toNat:=fun a=>h (UInt8.toNat_inj.1 a)
   rw [aaV h2];simpa using h
 rw [e 32,e 10];have h1:(32:UInt8).toNat=32:=rfl;have h2:(10:UInt8).toNat=10:=rfl;rw [h1,h2];simp
theorem lu.up {w:World}{g g':Nat}{lv:Value}{l:Bs}(h:lu w g lv l)(i:g≤g'):lu w g' lv l:=by
 obtain⟨A,c,rfl,e,a,f⟩:=h
 refine⟨A,c,rfl,e,a,fun h0=>?_⟩
 obtain⟨b,o,rfl,h1,h2,h3⟩:=f h0;exact⟨b,o,rfl,by omega,h2,h3⟩
def Pow (w : World) : Prop := Lib.TabBelow Tryz.prog w.heap.size w "internal/strconv.uint64pow10" .u64 Lib.pow10Tab
def Ju (w:World)(A B:Option Addr)(xs:List NV)(its:List Int):Prop:=(∀ x ∈ xs,x.1.kids.length≤1000000)→mq w A B xs its
structure wE (w:World) (A B:Option Addr) (c d:Nat) (xs:List NV) (its:List Int):Prop where
 own:∃ g,w.ownsRow g 50 5 (.slice A xs.length c) xs.length (iO xs)
 kids:∀ x ∈ xs,cB w x.2 x.1.kids
 row:cB w (.slice B its.length d) its
section
variable {w w':World} {A B:Option Addr} {c d:Nat} {xs:List NV} {its:List Int}
theorem wE.set (h:wE w A B c d xs its){tb:Nat}{cs:Array Value}(a:aC w tb 26 cs)(i:Nat)(u:Value):wE (w.setCell ⟨tb,i,none⟩ u) A B c d xs its:=by
 obtain⟨g,b⟩:=h.own;exact⟨⟨g,ownsRow_setCell_other b (aT b a (by decide)) u⟩,fun x e=>ownsRow_setCell_other (h.kids x e) (aT (h.kids x e) a (by decide)) u,ownsRow_setCell_other h.row (aT h.row a (by decide)) u⟩
theorem wE.below (h:wE w A B c d xs its)(a:Below w.heap.size w w'):wE w' A B c d xs its:=by
 obtain⟨g,b⟩:=h.own;exact⟨⟨g,own_below b a⟩,fun x e=>own_below (h.kids x e) a,own_below h.row a⟩
theorem wE.tree (h:wE w A B c d xs its):Ju w A B xs its:=fun b=>by
 obtain⟨g,i⟩:=h.own
 refine⟨fun h0=>?_,yI h.row rfl⟩
 obtain⟨a,e,f⟩:=Ee i h0 (fun x j=>⟨_,h.kids x j⟩) b;exact⟨a,0,e,f⟩
theorem dM.rows {g:Nat}{a:Bool}{iv lv:Value}{w0:World}{s:bB}(h:dM g a iv w s xs (.slice A xs.length c) lv)(b:jA w0 w xs (.slice B its.length d) its):wE w A B c d xs its:=⟨⟨g,h.own⟩,h.kids,b.row⟩
end
def DW (ay:Bool)(zA:Bs)(w:World)(e:Ending)(w':World):Prop :=
 Below w.heap.size w w'∧∃ A B c d xs,e=.returned (.tuple #[.string (aM (bZ ay zA)),.agg #[.slice A xs.length c,.slice B (grown ay zA).ix.length d],.bool (q9 (bZ ay zA))]) ∧
  aA xs=(grown ay zA).st.ns∧Ju w' A B xs (grown ay zA).ix
theorem KU {w a w':World}{g:Nat}(h1:Below w.heap.size w a)(h2:Below g a w')(b:w.heap.size≤g):Below w.heap.size w w':=h1.trans (h2.mono b)
theorem Pq (f:Bool)(q:Bs)(a4:Value)(w:World)(hP:Pow w)(hS:lu w w.heap.size a4 q) :
  Calls Tryz.prog 28 #[a4,.bool f] w (DW f q w):=by
 obtain⟨M,E,rfl,_⟩:=id hS;have K:Below w.heap.size w ((w.alloc (.cells #[.slice none 0 0,.slice none 0 0] 26)).alloc (.cells #[.slice M q.length E,.slice none 0 0,.slice none 0 0,.bool f] 81)):=ah (ah (Below.refl _ _) (aaJ _)) (by simp)
 have I:=O (show dM (w.heap.size+1) f (.slice none 0 0) ((w.alloc (.cells #[.slice none 0 0,.slice none 0 0] 26)).alloc (.cells #[.slice M q.length E,.slice none 0 0,.slice none 0 0,.bool f] 81)) ⟨q,[]⟩ [] (.slice none 0 0) (.slice M q.length E) from
  ⟨dL (W:=w.alloc (.cells #[.slice none 0 0,.slice none 0 0] 26)) (by simp),(hS.below K (aaJ _)).up (by omega),World.ownsRow_nil _ _ _ _,(fun x hx=>nomatch hx),rfl,fun Z S=>hP Z (K.trans (S.mono (by omega)))⟩)
 have rE:=O ((aC.new w 26 #[.slice none 0 0,.slice none 0 0]).alloc (.cells #[.slice M q.length E,.slice none 0 0,.slice none 0 0,.bool f] 81));have TL:=O (jA.nil ((w.alloc (.cells #[.slice none 0 0,.slice none 0 0] 26)).alloc (.cells #[.slice M q.length E,.slice none 0 0,.slice none 0 0,.bool f] 81)) ((w.alloc (.cells #[.slice none 0 0,.slice none 0 0] 26)).alloc (.cells #[.slice M q.length E,.slice none 0 0,.slice none 0 0,.bool f] 81)) []);have EZ:=O K;clear K hS hP;go_in
 go_wp2_with fail;obtain⟨g,hg⟩:∃ g,g=w.heap.size+1:=⟨_,rfl⟩;rw [← hg] at I ⊢
 have b7:w.heap.size < g:=by omega
 have a3:g < ((w.alloc (.cells #[.slice none 0 0,.slice none 0 0] 26)).alloc (.cells #[.slice M q.length E,.slice none 0 0,.slice none 0 0,.bool f] 81)).heap.size:=by simp;omega
 clear hg
 generalize (w.alloc (.cells #[.slice none 0 0,.slice none 0 0] 26)).alloc (.cells #[.slice M q.length E,.slice none 0 0,.slice none 0 0,.bool f] 81)=Z at I rE TL EZ a3 ⊢
 go_loopw [8,9] (fun sv i wr=>∃ (k:Nat) (r:oG) (X:Bs) (iv nv lv:Value) (xs:List NV),k≤12∧i=.int .i64 k∧sv=.string (aM X)∧Hid (X=GH r)∧Hid (jH f (12 - k) r=grown f q)∧Hid (r.ix=[]→r.pc=[])∧r.ix.length≤k∧X.length≤k * 12001∧r.st.ns.length≤k * 900∧Hid (dM g f iv wr r.st xs nv lv)∧Hid (jA Z wr xs iv r.ix)∧Hid (Below g Z wr)) (fun _ i _=>12 - (intOf i).toNat)
 case atStart=>exact⟨0,⟨[],[],⟨q,[]⟩⟩,[],_,_,_,[],aaL _,rfl,rfl,O rfl,O rfl,O fun _=>rfl,aaJ _,aaJ _,aaJ _,I,TL,O (Below.refl _ _)⟩
 case round =>
  clear I TL;obtain⟨wo,rfl⟩:∃ wo:World,wo=wr:=⟨_,rfl⟩;obtain⟨k,r,X,iv,nv,lv,xs,hk,rfl,rfl,HX,HR,HN,b9,c8,d4,H,L,HB⟩:=hrel;have c4:=HB.o.size;obtain⟨A1,c1,rfl,_⟩:=id H.o.seed;have E:=H.o.blk.cell 0;obtain⟨n,hn⟩:∃ n,n=r.st.left.length:=⟨_,rfl⟩;rw [← hn] at E H
  by_cases b8:k < 12∧0 < n
  ·obtain⟨h12,d3⟩:=b8;have a2:r.st.left ≠ []:=fun h=>by rw [h] at hn;simp at hn;omega
   obtain⟨mm,a1⟩:∃ mm,12 - k=mm+1:=⟨12 - k - 1,by omega⟩;have R:=HR.o;rw [a1,LZ f mm a2] at R
   have a9:=O R;have U1:=O (show 12 - (k+1)=mm by omega);have b0:=O (Sd f r HN.o);have b1:=O (CQ f r HN.o);have a6:(k:Int) < 12:=by omega
   have zn:(0:Int) < (n:Int):=by omega
   have U:=(Fv f r.st).1;obtain⟨a,ha⟩:∃ a,a=dH f r.st:=⟨_,rfl⟩;have HA:=O ha;clear a2 a1 R ha hn;rw [← HA.o] at U
   go_wp2_with fail;refine (Vf f g iv Z _ r.st xs nv _ r.ix H.o L.o c4 a3 (by omega) (by omega)).mono ?_;rintro e w3⟨rfl,AY,a5,eO,kZ,h,l,b⟩;rw [← HA.o] at h l ⊢
   have H3:=O h;have L3:=O l;have B3:=O (HB.o.trans b);clear h l b H L HB;obtain⟨T,hT⟩:∃ T,T=aN a.pc:=⟨_,rfl⟩;have c6:T.length≤12000:=by rw [hT];exact U
   rw [← hT];have HT:=O hT;clear hT U;have q0:¬ 9223372036854775807 < T.length+1:=by omega
   have q1:¬ 9223372036854775807 < X.length+(T.length+1):=by omega
   go_wp2_with fail;have b3:=O (show X ++ (T ++ [10])=GH (pz f r) by rw [b1.o,HX.o,HT.o,HA.o])
   refine⟨⟨k+1,pz f r,X ++ (T ++ [10]),_,_,_,_,by omega,by go_num,?_,b3,O (by rw [U1.o];exact a9.o),O fun h=>by simp [pz] at h,by show (r.ix ++ [_]).length≤_;rw [aaO];exact Nat.add_le_add_right b9 1,by simp only [aaO,List.length_cons,List.length_nil];omega,by have:=b0.o.2;omega,by show Hid (dM g f AY w3 (dH f r.st).st a5 eO kZ);rw [← HA.o];exact H3,by show Hid (jA Z w3 a5 AY (r.ix ++ [(dH f r.st).ix]));rw [← HA.o];exact L3,B3⟩,by simp [intOf];omega⟩
   refine congrArg Value.string ?_;rw [← ak,← ak];rfl
  ·have P:jH f (12 - k) r=r:=by
    by_cases h12:k < 12
    ·exact LU f _ (List.eq_nil_of_length_eq_zero (by omega))
    ·rw [show 12 - k=0 by omega];rfl
   have HE:=O (show r=grown f q by rw [← HR.o,P]);clear P HR hn
   have b6:(decide ((k:Int) < 12) && decide ((0:Int) < (n:Int)))=false:=by
    rcases Nat.lt_or_ge k 12 with h | h
    ·rw [aaV (by omega:¬ (0:Int) < (n:Int)),Bool.and_false]
    ·rw [aaV (by omega:¬ (k:Int) < 12),Bool.false_and]
   have c7:X.length≤200000:=by omega
   have b2:=O (show X=bZ f q by rw [CY,← HE.o,HX.o]);have wF:=O (show r.ix=(grown f q).ix by rw [← HE.o]);have rC:=O (show r.st.ns=(grown f q).st.ns by rw [← HE.o]);obtain⟨D,F,rfl⟩:=dh H.o.own;obtain⟨G,J,rfl⟩:=dh L.o.row;have d0:g < wo.heap.size:=H.o.lt;have h12:((k:Int) < 12∧¬ (0:Int) < (n:Int))∨¬ (k:Int) < 12:=by omega
   rcases h12 with ⟨a6,zn⟩ | a6
   all_goals
    go_wp2_with fail;go_loopw [10,11] (fun t i wq=>∃ j:Nat,j≤X.length∧i=.int .i64 j∧t=.int .i64 (Es (X.take j))∧wq=wo) (fun _ i _=>X.length - (intOf i).toNat)
    case atStart=>exact⟨0,aaL _,rfl,by simp [Es],rfl⟩
    case round =>
     obtain⟨j,hj,rfl,rfl,rfl⟩:=hrel;by_cases c2:j < X.length
     ·obtain⟨b,S⟩:∃ b,b=gt X j:=⟨_,rfl⟩;have m:=Lf c2;have V:=JE (X.take j);have c5:(X.take j).length≤X.length:=by rw [List.length_take];omega
      rw [← S,XR] at m
      obtain⟨u,Y⟩:∃ u,u=Es (X.take j):=⟨_,rfl⟩;rw [← Y] at m V ⊢
      have a0:gt X j=b:=S.symm;have z0:(0:Int)≤(j:Int):=by omega
      have z1:(j:Int) < (X.length:Int):=by omega
      obtain⟨v,hv⟩:∃ v,v=b.toNat:=⟨_,rfl⟩;rw [← hv] at m
      have c9:(gt X j).toNat=v:=by rw [a0,hv]
      clear S Y a0 hv;have d5:u≤200000:=by omega
      by_cases b5:v=32
      ·subst b5;rw [if_pos (.inl rfl)] at m
       have C:=O m;clear m;go_wp2_with fail;exact⟨⟨j+1,by omega,by go_num,by rw [C.o];go_num,trivial⟩,by simp [intOf];omega⟩
      have d7:((v:Int) != 32)=true:=by simp;omega
      by_cases b4:v=10
      ·subst b4;rw [if_pos (.inr rfl)] at m
       have C:=O m;clear m;go_wp2_with fail;exact⟨⟨j+1,by omega,by go_num,by rw [C.o];go_num,trivial⟩,by simp [intOf];omega⟩
      have d6:((v:Int) != 10)=true:=by simp;omega
      rw [if_neg (by omega)] at m
      have C:=O m;clear m;go_wp2_with fail;exact⟨⟨j+1,by omega,by go_num,by rw [C.o];go_num,trivial⟩,by simp [intOf];omega⟩
     ·obtain rfl:j=X.length:=by omega
      rw [List.take_length];have V:=JE X;obtain⟨u,Y⟩:∃ u,u=Es X:=⟨_,rfl⟩;rw [← Y] at V ⊢
      have Q:=O (show q9 X=(decide (X.length≤2000) && decide (u≤800)) by rw [Y];rfl);clear Y;have d1:=H.o.blk.cell 1;have d2:=H.o.blk.cell 2;have N:=O (rE.o.below HB.o b7);have e0:=N.o.cell 0;have e1:=N.o.cell 1;have f0:=N.o.frozen 0;have f1:=N.o.frozen 1;have y:=O ((((N.o.d_ 0 (.slice D xs.length F)).d_ 1 (.slice G r.ix.length J))).below (Below.drew (Below.refl ((wr.setCell ⟨w.heap.size,0,none⟩ (.slice D xs.length F)).setCell ⟨w.heap.size,1,none⟩ (.slice G r.ix.length J)).heap.size _)) (by have:=N.o.lt;simpa using this));have a8:=O ((((H.o.rows L.o).set N.o 0 (.slice D xs.length F)).set (N.o.d_ 0 (.slice D xs.length F)) 1 (.slice G r.ix.length J)).below (Below.drew (Below.refl _ _)));have a7:=O (Below.drew (dx (b:=w.heap.size) (i:=1) (u:=.slice G r.ix.length J) (dx (b:=w.heap.size) (i:=0) (u:=.slice D xs.length F) (KU EZ.o HB.o (by omega)) (aaJ _)) (aaJ _)));have Wx:=O fun (b:Bool) (S:q9 X=b)=>(show DW f q w (.returned (.tuple #[.string (aM X),.agg #[.slice D xs.length F,.slice G r.ix.length J],.bool b])) _ from ⟨a7.o,D,G,F,J,xs,by rw [← b2.o,← wF.o,S],by rw [← rC.o];exact H.o.ns,by rw [← wF.o];exact a8.o.tree⟩)
      by_cases k1:X.length≤2000
      ·have z1:(X.length:Int)≤2000:=by omega
       by_cases k2:u≤800
       ·have z2:(u:Int)≤800:=by omega
        go_wp2_with fail;go_region
        go_wp2_with fail;have r0:=y.o.cell 0;have r1:=y.o.cell 1;refine bodyPost_ret (v:=.tuple #[.string (aM X),.agg #[.slice D xs.length F,.slice G r.ix.length J],.bool true]) (by simp [results,Tryz.f28,go_sem,r0,r1] <;> omega) rfl ?_;exact Wx.o true (by rw [Q.o];rw [aaU k1,aaU k2];rfl)
       ·have z2:¬ (u:Int)≤800:=by omega
        go_wp2_with fail;go_region
        go_wp2_with fail;have r0:=y.o.cell 0;have r1:=y.o.cell 1;refine bodyPost_ret (v:=.tuple #[.string (aM X),.agg #[.slice D xs.length F,.slice G r.ix.length J],.bool false]) (by simp [results,Tryz.f28,go_sem,r0,r1] <;> omega) rfl ?_;exact Wx.o false (by rw [Q.o];rw [aaV k2,Bool.and_false])
      ·have z1:decide ((X.length:Int)≤2000)=false:=aaV (by omega);have K1:=O k1;clear k1;go_wp2_with fail;go_region
       go_wp2_with fail;have r0:=y.o.cell 0;have r1:=y.o.cell 1;refine bodyPost_ret (v:=.tuple #[.string (aM X),.agg #[.slice D xs.length F,.slice G r.ix.length J],.bool false]) (by simp [results,Tryz.f28,go_sem,r0,r1] <;> omega) rfl ?_;exact Wx.o false (by rw [Q.o];rw [aaV K1.o,Bool.false_and])
end Go.Proofs.YthepmkjggfijoaaGreatDoor
namespace Go.Proofs.YthepmkjggfijoaaGreatDoor
open Go.ChangeShapes Go.WideShapes Go.ChangeAt Go.RowKit Go.MapKept Go.ChangeMaps Mist
theorem Eh (a:Addr)(i j:Nat):(a.add i).add j=a.add (i+j):=by
 unfold Addr.add;by_cases b:i=0 <;> by_cases e:j=0 <;> simp [b,e,Nat.add_assoc]
def yX (l:Bs):List Value:=l.map fun b=>Value.int .u8 b.toNat
theorem Bj (l:Bs):(yX l).length=l.length:=by simp [yX]
def VW (w:World)(v:Value)(l:Bs):Prop:=∃ A c,v=.slice A l.length c∧l.length≤c∧c≤140737488351232∧Reads w w.heap.size 1 A l.length (yX l)
theorem VW.none_ (w:World):VW w (.slice none 0 0) []:=⟨none,0,rfl,aaJ _,aaL _,Reads.none_⟩
structure URow (w:World) (b o:Nat) (l:Bs):Prop where
 lt:b < w.heap.size
 at_:∀ k,k < l.length→w.cell? ⟨b,o+k,none⟩=some (.int .u8 (gt l k).toNat)
theorem VW.rowA {w:World}{A:Option Addr}{n c:Nat}{l:Bs}(h:VW w (.slice A n c) l)(h0:0 < l.length):∃ b o,A=some ⟨b,o,none⟩∧URow w b o l:=by
 obtain⟨v,y,hv,C,_,u⟩:=h;injection hv with r D t
 subst r;obtain⟨ad,rfl,j,a⟩:=u.2 h0
 have e:∀ k,k < l.length→(yX l)[k]? = some (.int .u8 (gt l k).toNat):=by
  intro k i;simp [yX,gt,i]
 have g:=a 0 _ (e 0 h0);obtain⟨b,o,q⟩:=ad
 have m:q=none:=by
  cases q with
  | none=>rfl
  | some x =>
   exfalso
   simp only [Addr.add,if_pos] at g
   unfold World.cell? at g
   simp only [Option.isSome_some,if_true] at g
   split at g <;> simp at g
 subst m
 have f:∀ n,(⟨b,o,none⟩:Addr).add n=⟨b,o+n,none⟩:=by
  intro n;unfold Addr.add;split
  ·rename_i h;rw [h];rfl
  ·rfl
 refine⟨b,o,rfl,j,fun k i=>?_⟩
 have:=a k _ (e k i)
 rw [f] at this;exact this
set_option maxRecDepth 100000
theorem DJ {H:Type}{enc:TypeId × Value→H}{W:World}{base j:Nat}{v:Value}{d:DataW H}{ps:List MemPlace}{Y:List TypeId}{S:List (DataW H)}
  (F:Value.okWide Tryz.prog W .any base 42 v) (h:DataW.Trod enc Tryz.prog W 0 (fun _=>true) true 42 v d ps)
  (N:(DataW.weightsEach Tryz.prog Y S).all (·≤reachBytes)=true) (ht:Y[j]? = some 42) (hd:S[j]? = some d) :
  ∃ l:Bs,VW W v l∧l.length≤4611686018427387904:=by
 obtain⟨R,t,r,rfl⟩:=okWide_slice Tryz.underlying42 F;obtain⟨T,hf⟩:=h;rcases Deep.open_slice Tryz.underlying42 hf with ⟨x,_⟩ | ⟨a,len,g,m,n,D,Pl,x,_,M,U,hm,hx,K⟩
 ·have:(Value.slice R t r)=.slice none 0 0:=by simpa [Value.cells] using x
  rw [this];exact⟨[],VW.none_ W,by simp⟩
 ·have hv:(Value.slice R t r)=.slice (some a) len g:=by simpa [Value.cells] using x
  rw [hv];have a3:m=g:=by simpa using hm
  have E:∀ i,i < len→∃ b:UInt8,W.cells? 0 (a.add (i * 1)) 1=some [.int .u8 b.toNat]:=by
   intro i hi;obtain⟨G,h1,h2⟩:=K i (by omega);rw [Zh] at h1
   obtain⟨k,hk,a1,L⟩:=DataW.trod_int Tw h2
   have a2:0≤k∧k < 256:=by
    simp [Lit.wf,IntKind.min,IntKind.max,IntKind.signed,IntKind.bits] at L
    omega
   have Z:G=[.int .u8 k]:=by simpa using hk
   refine⟨UInt8.ofNat k.toNat,?_⟩
   rw [h1,Z,UInt8.toNat_ofNat',show ((k.toNat % 2 ^ 8:Nat):Int)=k by omega]
  obtain⟨f,C⟩:=Deep.choose_lt E;have J:d=.slice ((List.range len).map D) ((List.range (m - len)).map fun j=>D (len+j)):=(Prod.mk.inj hx).1;have e:((List.range len).map f).length=len:=by simp
  have Q:=DataW.weights_mem_each (P:=Tryz.prog) ht hd;have y:=aaR.1 N
  have I:g * 1≤reachBytes:=by
   have h1:=y (g * 1) (Q _ (by
    rw [J];simp only [DataW.weights,Tryz.underlying42,List.mem_cons];left
    have hb:Tryz.prog.bytesOf 5=1:=by kernel_rfl
    rw [hb];simp;omega))
   simpa using h1
  have hr:reachBytes=140737488351232:=rfl
  refine⟨(List.range len).map f,?_,by rw [e];omega⟩
  refine⟨some a,g,by rw [e],by rw [e];exact M,by omega,?_⟩
  refine⟨by rw [Bj,e];omega,fun h0=>⟨a,rfl,?_,?_⟩⟩
  ·have h1:=C 0 (by omega)
   have:=World.cells?_block h1 (by omega)
   simpa [LV] using this
  ·intro q u X
   have V:q < len:=by
    have h1:=(aaE.1 X).1;rw [Bj,e] at h1
    exact h1
   have h1:=(World.cells?_some (C q V)).2.2 0 (by omega);rw [Eh,show q * 1+0=q by omega] at h1
   rw [h1];rw [← X];simp [yX,V]
theorem VW.seed {w:World}{v:Value}{l:Bs}(h:VW w v l):lu w w.heap.size v l:=by
 obtain⟨A,c,rfl,e,f,g⟩:=id h
 refine⟨A,c,rfl,e,by omega,fun h0=>?_⟩
 obtain⟨b,o,rfl,a⟩:=h.rowA (by cases l with | nil=>exact absurd rfl h0 | cons=>simp);exact⟨b,o,rfl,a.lt,a.lt,a.at_⟩
theorem Ry:(Rows.laid_internal_strconv_uint64pow10:DataW Unit)=Lib.tabData IntKind.u64 Lib.pow10Tab:=by kernel_rfl
theorem F8 {l : List (String × DataW Unit)} {w : World} (h : laidMet Tryz.prog l w) (a : ("internal/strconv.uint64pow10", Rows.laid_internal_strconv_uint64pow10) ∈ l) : Pow w := by
 rw [Ry] at a
 exact Lib.tabBelow_of_tabIs (PO (g:=1) (t:=191) (e:=174) (n:=20) (by kernel_rfl) (by kernel_rfl) (by kernel_rfl) (by kernel_rfl) (by kernel_rfl) (by kernel_rfl) h a)
end Go.Proofs.YthepmkjggfijoaaGreatDoor
