/-
  A part of the proof.
-/
import Derived.Test.YtalghggmkojblaaGreatDoorS45
set_option linter.all false
set_option maxRecDepth 100000
set_option maxHeartbeats 4000000
namespace Go.Proofs.YtalghggmkojblaaGreatDoor
section
open Go.RowKit Mist
attribute [local go_sem] ak aN aV aF aj
theorem agS {b:Bool}{g:Nat}{iv:Value}{w0 w:World}{s:Gs}{xs:List NV}{nv lv:Value}{f:List Int}(H:Hid (PL g b iv w s xs nv lv))(c:Hid (LG w0 w xs iv f))(hw:w0.heap.size≤w.heap.size)(hg:g < w0.heap.size)(hil:f.length≤1000)(hn:s.ns.length≤100000)(L:s.nx % 7=6) :
  Calls Tryz.prog 10 #[.pointer (some ⟨g,0,none⟩)] w (nI g b w0 w f (iF b s)):=by
 obtain⟨Ai,ci,y⟩:=dA c.o.row;subst y;obtain⟨j0,A,C,D,E⟩:=info_parts jq;have T:=O fun (row:Option Nat) (w':World) (m:Mv g nv.ownBlock w row w')=>H.o.low m
 have M:=O (Gw.refl (g:=g) (w:=w) (xs:=xs) (nv:=nv));have Uz:=O (dw.lt c.o.row);have Xr:Int.tmod (s.nx:Int) 7=6:=by rw [Int.tmod_eq_emod_of_nonneg (by omega)];omega
 have I:=O (show gI b s=sw b (1+s.tl.tl.nx % 8) s.tl.tl.tl by unfold gI;simp only;rw [if_neg (by omega),if_neg (by omega),if_neg (by omega),if_neg (by omega),if_neg (by omega),if_neg (by omega)]);have v:=L;go_in
 go_wp2_with fail;refine (BK H M).mono ?_;clear H M;rintro e w1⟨oH,rfl,q1,H,M,R⟩
 replace c:=kp R c
 clear R;go_wp2_with fail;refine (BK H M).mono ?_;clear H M;rintro e w2⟨EW,rfl,q2,H,M,R⟩
 replace c:=kp R c
 clear R;go_wp2_with fail;refine (YZ (s.tl.nx) _).mono ?_;rintro e w3⟨x,rfl,Hx,lx,rfl⟩;clear L;obtain⟨q,B⟩:∃ m,m=(s.tl.tl).nx % 8:=⟨_,rfl⟩;have zq:Int.tmod ((s.tl.tl).nx:Int) 8=(q:Int):=by rw [Int.tmod_eq_emod_of_nonneg (by omega),B];omega
 have K:=O B.symm;have bq:q≤7:=by omega
 clear B;have yq:IntKind.i64.wrap (1+(q:Int))=((1+q:Nat):Int):=by rw [IntWalk.i64_in _ (by omega)];omega
 have Mt:=O (show iY s=if 1+q=7 then [32] else [] from by
  unfold iY;rw [K.o];by_cases h6:q=6
  ·rw [if_pos ⟨v,h6⟩,if_pos (by omega)]
  ·rw [if_neg (fun h=>h6 h.2),if_neg (by omega)])
 rw [K.o] at I
 go_wp2_with fail;refine (BK H M).mono ?_;clear H M;rintro e w4⟨Tc,rfl,q4,H,M,R⟩
 replace c:=kp R c
 clear R;go_wp2_with fail;refine (akH H M (q:=1+q) (by omega) (by omega) (by omega)).mono ?_;clear H M;rintro e w5⟨k,Y,xs5,Qx,lv5,rfl,kR,V,lY,H,M,R⟩
 replace c:=kp R c
 clear R
 have F:ah k.pc ++ iY s=Y:=by
  rw [Mt.o,V.o]
 have Q8:=O F;clear F;obtain⟨id,P⟩:∃ id,Hid (k.ix=id):=⟨_,O rfl⟩;rw [P.o];have j:=(c.o.alloc (.cells #[.int .i64 id] 3)).row;have t:=O j;have cI:=H.o.blk.cell 2;clear j;go_wp2_with (at_builtin;go_loud (refine wpList_append_lies _ rfl (.tmp 234) (.tmp 236) 26 rfl 0 3 j0 (.int .i64 0) 1 8 Tryz.underlying26 A C D E rfl (by decide) _ f.length (intCells f) rfl t.o ⟨w5.heap.size,0,none⟩ 1 1 [.int .i64 id] rfl rfl (cell_one_new _ _ _) (by intro u N;simp at N;subst N;rfl) (by omega) (by simp only [maxLen];omega) (by omega) (amN _) _ rfl ?_);intro gg cap x9 i d l hlt;obtain⟨r,n,X,S⟩:=itB H M rfl T c hw hg i d l;have c14:=r.cell 2;have f14:=r.frozen 2;clear i d l r)
 refine (iC g b _ _ (k.st) _ _ _ n.o).mono ?_;rintro e w99⟨rfl,Td,h,m⟩;have U:=O h;have W:=O (X.o.mv n.o m);have Q:=O (S.o.trans (n.o.low m));clear h m;have Z:=iR b (k.st);obtain⟨G,J⟩:∃ G,Hid (dQ b (k.st)=G):=⟨_,O rfl⟩;rw [J.o] at Z ⊢
 have cz0:¬ 9223372036854775807 < Y.length+G.length:=by omega
 have cz1:¬ 9223372036854775807 < Y.length+G.length+1:=by omega
 go_wp2_with fail;go_ret;exact itE (a:=k) (I.o.trans kR.o) Q8.o J.o P.o (by first|(rw [← aj];rfl)|(rw [← aj,← aj];rfl)) U.o W.o Q.o
theorem agT {c:Bool}{g:Nat}{iv:Value}{w0 w:World}{s:Gs}{xs:List NV}{nv lv:Value}{L:List Int}(H:Hid (PL g c iv w s xs nv lv))(f:Hid (LG w0 w xs iv L))(hw:w0.heap.size≤w.heap.size)(hg:g < w0.heap.size)(hil:L.length≤1000)(hn:s.ns.length≤100000)(hb:s.nx % 7=2) :
  Calls Tryz.prog 10 #[.pointer (some ⟨g,0,none⟩)] w (nI g c w0 w L (iF c s)):=by
 obtain⟨Ai,ci,hiv⟩:=dA f.o.row;subst hiv;obtain⟨j0,W,Z,hy1,hy2⟩:=info_parts jq;have Ev:=O fun (row:Option Nat) (w':World) (m:Mv g nv.ownBlock w row w')=>H.o.low m
 have M:=O (Gw.refl (g:=g) (w:=w) (xs:=xs) (nv:=nv));have Uz:=O (dw.lt f.o.row);obtain⟨E,Uy⟩:∃ E,Hid (dx c 4=E):=⟨_,O rfl⟩;have X:=O (adq c);rw [Uy.o] at X
 have Xr:Int.tmod (s.nx:Int) 7=2:=by rw [Int.tmod_eq_emod_of_nonneg (by omega)];omega
 have HB:=O (show gI c s=IL c (dD s.tl.nx) s.tl.tl by unfold gI;simp only;rw [if_neg (by omega),if_neg (by omega),if_pos hb]);have Mt:=O (show iY s=[] from if_neg (fun h=>by omega));go_in
 go_wp2_with fail;refine (BK H M).mono ?_;clear H M;rintro e w1⟨oH,rfl,q1,H,M,R⟩
 replace f:=kp R f
 clear R;go_wp2_with fail;refine (BK H M).mono ?_;clear H M;rintro e w2⟨EW,rfl,q2,H,M,R⟩
 replace f:=kp R f
 clear R;go_wp2_with fail;refine (YZ (s.tl.nx) _).mono ?_;rintro e w3⟨x,rfl,Hx,lx,rfl⟩;rw [Hx.o] at HB
 clear hb;obtain⟨m5,hm5⟩:∃ m,m=(s.tl.tl).nx % 5:=⟨_,rfl⟩;have zm5:Int.tmod ((s.tl.tl).nx:Int) 5=(m5:Int):=by rw [Int.tmod_eq_emod_of_nonneg (by omega),hm5];omega
 have Hm5:=O hm5.symm;have bm5:m5≤4:=by omega
 clear hm5;go_wp2_with fail;refine (BK H M).mono ?_;clear H M;rintro e w4⟨Tc,rfl,q4,H,M,R⟩
 replace f:=kp R f
 clear R;go_wp2_with fail;refine (prH H M (m:=m5) (by omega) (by omega)).mono ?_;clear H M;rintro e w5⟨B,j,A5,c5,xs5,Qx,lv5,rfl,kR,KI,tl5,bn5,aj_,k,H,M,R⟩
 replace f:=kp R f
 clear R;go_wp2_with fail;refine (kdH H M (by omega)).mono ?_;clear H M;rintro e w6⟨l,C,xs6,Tn,lv6,rfl,r_,HT6,O6,tl6,bn6,H,M,R⟩
 replace f:=kp R f
 replace k:=kp R k
 clear R;obtain⟨q,hq⟩:∃ m,m=(l.st).nx % 12:=⟨_,rfl⟩;have zq:Int.tmod ((l.st).nx:Int) 12=(q:Int):=by rw [Int.tmod_eq_emod_of_nonneg (by omega),hq];omega
 have Hq:=O hq.symm;have bq:q≤11:=by omega
 clear hq;have HUP:=O (show rX l.st=if 8 < q then 0 else q by unfold rX;rw [Hq.o]);go_wp2_with fail;refine (BK H M).mono ?_;clear H M;rintro e w7⟨lv7,rfl,q7,H,M,R⟩
 replace f:=kp R f
 replace k:=kp R k
 clear R;by_cases hq9:8 < q∨q=0
 ·have hz9:(8 < q∧(q:Int) > 8∧8 < (q:Int))∨q=0:=by omega
  rcases hz9 with ⟨z0,z1,z2⟩ | rfl
  all_goals
   have HUQ:=O (show rX l.st=0 by rw [HUP.o];first | rfl|(split <;> omega));go_wp2_with fail;refine (Qu H M X (by omega)).mono ?_;clear H M;rintro e w8⟨A,T8,xs8,nv8,lv8,rfl,zf,HT8,O8,tl8,bn8,H,M,R⟩
   replace f:=kp R f
   replace k:=kp R k
   clear R;go_wp2_with fail;refine (xD H M).mono ?_;clear H M;rintro e w9⟨t,lv9,rfl,HG9,MG,q9,H,M,R⟩
   replace f:=kp R f
   replace k:=kp R k
   clear R;have zM:¬ 9223372036854775807 < 3+t.length:=by omega
   have zN:¬ 9223372036854775807 < 3+t.length+x.length:=by omega
   have NJ:¬ 9223372036854775807 < 3+t.length+x.length+1:=by omega
   have NK:¬ 9223372036854775807 < 3+t.length+x.length+1+j.length:=by omega
   have aaB:¬ 9223372036854775807 < 3+t.length+x.length+1+j.length+1:=by omega
   go_wp2_with fail;refine (xD H M).mono ?_;clear H M;rintro e w10⟨K,agL,rfl,ZO,ad2,q10,H,M,R⟩
   replace f:=kp R f
   replace k:=kp R k
   clear R;clear zM zN NJ NK aaB;have zO:¬ 9223372036854775807 < 3+t.length:=by omega
   have zP:¬ 9223372036854775807 < 3+t.length+x.length:=by omega
   have zQ:¬ 9223372036854775807 < 3+t.length+x.length+1:=by omega
   have zR:¬ 9223372036854775807 < 3+t.length+x.length+1+j.length:=by omega
   have FU:¬ 9223372036854775807 < 3+t.length+x.length+1+j.length+1:=by omega
   have NM:¬ 9223372036854775807 < 3+t.length+x.length+1+j.length+1+K.length:=by omega
   have aaC:¬ 9223372036854775807 < 3+t.length+x.length+1+j.length+1+K.length+1:=by omega
   have aaD:¬ 9223372036854775807 < 3+t.length+x.length+1+j.length+1+K.length+1+C.length:=by omega
   have aaE:¬ 9223372036854775807 < 3+t.length+x.length+1+j.length+1+K.length+1+C.length+0:=by omega
   go_wp2_with fail;refine (xD H M).mono ?_;clear H M;rintro e w11⟨i,aiE,rfl,af5,ajI,q11,H,M,R⟩
   replace f:=kp R f
   replace k:=kp R k
   clear R;clear zO zP zQ zR FU NM aaC aaD aaE;have NQ:¬ 9223372036854775807 < 3+t.length:=by omega
   have NR:¬ 9223372036854775807 < 3+t.length+x.length:=by omega
   have Qt:¬ 9223372036854775807 < 3+t.length+x.length+1:=by omega
   have RN:¬ 9223372036854775807 < 3+t.length+x.length+1+j.length:=by omega
   have cq4:¬ 9223372036854775807 < 3+t.length+x.length+1+j.length+1:=by omega
   have cq5:¬ 9223372036854775807 < 3+t.length+x.length+1+j.length+1+K.length:=by omega
   have cq6:¬ 9223372036854775807 < 3+t.length+x.length+1+j.length+1+K.length+1:=by omega
   have cq7:¬ 9223372036854775807 < 3+t.length+x.length+1+j.length+1+K.length+1+C.length:=by omega
   have cq8:¬ 9223372036854775807 < 3+t.length+x.length+1+j.length+1+K.length+1+C.length+0:=by omega
   have cq9:¬ 9223372036854775807 < 3+t.length+x.length+1+j.length+1+K.length+1+C.length+0+i.length:=by omega
   have ajz:¬ 9223372036854775807 < 3+t.length+x.length+1+j.length+1+K.length+1+C.length+0+i.length+1:=by omega
   have ajA:¬ 9223372036854775807 < 3+t.length+x.length+1+j.length+1+K.length+1+C.length+0+i.length+1+T8.length:=by omega
   have N:=O (k.o.alloc (.cells #[.int .i64 l.ix,.int .i64 A.ix] 3));have IA:=O (f.o.alloc (.cells #[.int .i64 l.ix,.int .i64 A.ix] 3));have HA:=O (H.o.alloc (.cells #[.int .i64 l.ix,.int .i64 A.ix] 3));have MA:=O (M.o.gT (o:=.cells #[.int .i64 l.ix,.int .i64 A.ix] 3));have S:=MA.o.size;have P:=O (Nq Uz.o k.o.lo);have F:=O fun b hb=>Nat.le_trans (amM (amY hg hw)) (k.o.lo b hb)
   clear k f H M;go_wp2_with (at_builtin;go_loud (refine wpList_append_lies _ rfl (.tmp 169) (.tmp 172) 26 rfl 0 3 j0 (.int .i64 0) 1 8 Tryz.underlying26 W Z hy1 hy2 rfl (by decide) _ B.ix.length (intCells B.ix) rfl N.o.row ⟨w11.heap.size,0,none⟩ 2 2 [.int .i64 l.ix,.int .i64 A.ix] rfl rfl (iK _ [.int .i64 l.ix,.int .i64 A.ix] _) (by intro u T;simp at T;rcases T with rfl | rfl <;> rfl) (by omega) (by simp only [maxLen];omega) (by omega) (amN _) _ rfl ?_);intro Sc FQ x9 r d v Q;have k:=O (N.o.grows (js:=[l.ix,A.ix]) HA.o r v S);have f:=O (IA.o.keep d P.o);have H:=O (HA.o.grow N.o d F.o);have M:=O (MA.o.grow N.o d);clear r d v Q)
   clear N IA HA MA S P F;obtain⟨Y,HY⟩:∃ Y:Bs,Hid ([102,117,110] ++ t ++ x ++ [40] ++ j ++ [41] ++ K ++ [58] ++ C ++ [] ++ i ++ [61] ++ T8=Y):=⟨_,O rfl⟩;rw [show (⟨#[102,117,110]⟩:ByteArray) ++ aG (t) ++ aG (x) ++ (⟨#[40]⟩:ByteArray) ++ aG (j) ++ (⟨#[41]⟩:ByteArray) ++ aG (K) ++ (⟨#[58]⟩:ByteArray) ++ aG (C) ++ (⟨#[]⟩:ByteArray) ++ aG (i) ++ (⟨#[61]⟩:ByteArray) ++ aG (T8)=aG Y from by rw [← HY.o] <;> (simp only [← aj];rfl)];have lY:Y.length≤10000000:=by rw [← HY.o];simp only [amQ,List.length_cons,List.length_nil];omega
   refine (ptL H M k (by omega)).mono ?_;clear H M;rintro e w12⟨ak2,agP,rfl,H,M,R⟩
   replace f:=O (R.o _ _ _ Uz.o f.o)
   clear R
   have HF:=O (show IL c x s.tl.tl=d9 (([],3,[102,117,110]) :: (t,1,x) :: gu [40] :: (B.pc ++ gu [41] :: (K,4,[58]) :: (l.pc ++ (([]:eO) ++ (i,4,[61]) :: A.pc)))) (aM c (aM c (aM c (A.st)))) ⟨42,x,0,(B.ix ++ [l.ix,A.ix]),0⟩ from by
    unfold IL
    try simp only
    rw [Hm5.o,kR.o,r_.o,HUQ.o,if_neg (Nat.lt_irrefl 0),if_neg (Nat.lt_irrefl 0),Uy.o,zf.o,HG9.o,ZO.o,af5.o] <;> rfl)
   have DX:ah (([],3,[102,117,110]) :: (t,1,x) :: gu [40] :: (B.pc ++ gu [41] :: (K,4,[58]) :: (l.pc ++ (([]:eO) ++ (i,4,[61]) :: A.pc)))) ++ iY s=Y:=by
    rw [Mt.o,List.append_nil];simp only [ah,aX,gu];rw [KI.o,HT6.o,HT8.o,← HY.o] <;> simp only [List.nil_append,List.append_nil,List.append_assoc,List.cons_append]
   have Q8:=O DX;clear DX;obtain⟨id,sM⟩:∃ id,Hid (Gs.id (aM c (aM c (aM c (A.st))))=id):=⟨_,O rfl⟩;rw [sM.o];have I:=(f.o.alloc (.cells #[.int .i64 id] 3)).row;have HRW:=O I;have cI:=H.o.blk.cell 2;clear I;go_wp2_with (at_builtin;go_loud (refine wpList_append_lies _ rfl (.tmp 234) (.tmp 236) 26 rfl 0 3 j0 (.int .i64 0) 1 8 Tryz.underlying26 W Z hy1 hy2 rfl (by decide) _ L.length (intCells L) rfl HRW.o ⟨w12.heap.size,0,none⟩ 1 1 [.int .i64 id] rfl rfl (cell_one_new _ _ _) (by intro u T;simp at T;subst T;rfl) (by omega) (by simp only [maxLen];omega) (by omega) (amN _) _ rfl ?_);intro gg cap x9 r d v Q;obtain⟨HK,H9,L9,B9⟩:=itB H M rfl Ev f hw hg r d v;have c14:=HK.cell 2;have f14:=HK.frozen 2;clear r d v HK)
   refine (iC g c _ _ ((aM c (aM c (aM c (A.st)))).put ⟨42,x,0,(B.ix ++ [l.ix,A.ix]),0⟩) _ _ _ H9.o).mono ?_;rintro e w99⟨rfl,Td,h,m⟩;have H5:=O h;have L5:=O (L9.o.mv H9.o m);have B5:=O (B9.o.trans (H9.o.low m));clear h m;have MG:=iR c ((aM c (aM c (aM c (A.st)))).put ⟨42,x,0,(B.ix ++ [l.ix,A.ix]),0⟩);obtain⟨G,HG⟩:∃ G,Hid (dQ c ((aM c (aM c (aM c (A.st)))).put ⟨42,x,0,(B.ix ++ [l.ix,A.ix]),0⟩)=G):=⟨_,O rfl⟩;rw [HG.o] at MG ⊢
   have cz0:¬ 9223372036854775807 < Y.length+G.length:=by omega
   have cz1:¬ 9223372036854775807 < Y.length+G.length+1:=by omega
   go_wp2_with fail;go_ret;exact itE (a:=d9 (([],3,[102,117,110]) :: (t,1,x) :: gu [40] :: (B.pc ++ gu [41] :: (K,4,[58]) :: (l.pc ++ (([]:eO) ++ (i,4,[61]) :: A.pc)))) (aM c (aM c (aM c (A.st)))) ⟨42,x,0,(B.ix ++ [l.ix,A.ix]),0⟩) (HB.o.trans HF.o) Q8.o HG.o sM.o (by first|(rw [← aj];rfl)|(rw [← aj,← aj];rfl)) H5.o L5.o B5.o
 ·have h8:¬ 8 < q:=fun h=>hq9 (.inl h)
  have h0:0 < q:=Nat.pos_of_ne_zero fun h=>hq9 (.inr h)
  clear hq9;have z8:¬ (q:Int) > 8:=by omega
  have z0:(q:Int) > 0:=by omega
  have z8b:¬ 8 < (q:Int):=by omega
  have z0b:0 < (q:Int):=by omega
  have HUQ:=O (show rX l.st=q by rw [HUP.o,if_neg h8]);have hit:=wK ⟨q,by omega⟩;simp only at hit
  go_wp2_with fail;refine (xD H M).mono ?_;clear H M;rintro e w8⟨G8,lv8,rfl,HG8,gl8,q8,H,M,R⟩
  replace f:=kp R f
  replace k:=kp R k
  clear R;go_wp2_with fail;refine (itH H M (n:=(q:Int)) (by omega) (by omega)).mono ?_;clear H M;rintro e w9⟨U,rfl,HU,H,M,R⟩
  replace f:=kp R f
  replace k:=kp R k
  clear R;rw [HU.o] at hit
  have cu0:¬ 9223372036854775807 < 5+G8.length:=by omega
  have cu1:¬ 9223372036854775807 < 5+G8.length+U.length:=by omega
  go_wp2_with fail;obtain⟨V,HV⟩:∃ Y:Bs,Hid ([32,117,112,116,111] ++ G8 ++ U=Y):=⟨_,O rfl⟩;rw [show (⟨#[32,117,112,116,111]⟩:ByteArray) ++ aG (G8) ++ aG (U)=aG V from by rw [← HV.o] <;> (simp only [← aj];rfl)];have lV:V.length≤10000000:=by rw [← HV.o];simp only [amQ,List.length_cons,List.length_nil];omega
  have lV2:V.length≤30:=by rw [← HV.o];simp only [amQ,List.length_cons,List.length_nil];omega
  refine (Qu H M X (by omega)).mono ?_;clear H M;rintro e w10⟨y,T10,ak1,aeu,agL,rfl,rZ,ajs,O10,amx,als,H,M,R⟩
  replace f:=kp R f
  replace k:=kp R k
  clear R;go_wp2_with fail;refine (xD H M).mono ?_;clear H M;rintro e w11⟨i,aiE,rfl,af5,ajI,q11,H,M,R⟩
  replace f:=kp R f
  replace k:=kp R k
  clear R;have zM:¬ 9223372036854775807 < 3+i.length:=by omega
  have zN:¬ 9223372036854775807 < 3+i.length+x.length:=by omega
  have NJ:¬ 9223372036854775807 < 3+i.length+x.length+1:=by omega
  have NK:¬ 9223372036854775807 < 3+i.length+x.length+1+j.length:=by omega
  have aaB:¬ 9223372036854775807 < 3+i.length+x.length+1+j.length+1:=by omega
  go_wp2_with fail;refine (xD H M).mono ?_;clear H M;rintro e w12⟨J,ami,rfl,ajb,ahY,q12,H,M,R⟩
  replace f:=kp R f
  replace k:=kp R k
  clear R;clear zM zN NJ NK aaB;have zO:¬ 9223372036854775807 < 3+i.length:=by omega
  have zP:¬ 9223372036854775807 < 3+i.length+x.length:=by omega
  have zQ:¬ 9223372036854775807 < 3+i.length+x.length+1:=by omega
  have zR:¬ 9223372036854775807 < 3+i.length+x.length+1+j.length:=by omega
  have FU:¬ 9223372036854775807 < 3+i.length+x.length+1+j.length+1:=by omega
  have NM:¬ 9223372036854775807 < 3+i.length+x.length+1+j.length+1+J.length:=by omega
  have aaC:¬ 9223372036854775807 < 3+i.length+x.length+1+j.length+1+J.length+1:=by omega
  have aaD:¬ 9223372036854775807 < 3+i.length+x.length+1+j.length+1+J.length+1+C.length:=by omega
  have aaE:¬ 9223372036854775807 < 3+i.length+x.length+1+j.length+1+J.length+1+C.length+V.length:=by omega
  go_wp2_with fail;refine (xD H M).mono ?_;clear H M;rintro e w13⟨D,amj,rfl,ajc,alM,q13,H,M,R⟩
  replace f:=kp R f
  replace k:=kp R k
  clear R;clear zO zP zQ zR FU NM aaC aaD aaE;have NQ:¬ 9223372036854775807 < 3+i.length:=by omega
  have NR:¬ 9223372036854775807 < 3+i.length+x.length:=by omega
  have Qt:¬ 9223372036854775807 < 3+i.length+x.length+1:=by omega
  have RN:¬ 9223372036854775807 < 3+i.length+x.length+1+j.length:=by omega
  have cq4:¬ 9223372036854775807 < 3+i.length+x.length+1+j.length+1:=by omega
  have cq5:¬ 9223372036854775807 < 3+i.length+x.length+1+j.length+1+J.length:=by omega
  have cq6:¬ 9223372036854775807 < 3+i.length+x.length+1+j.length+1+J.length+1:=by omega
  have cq7:¬ 9223372036854775807 < 3+i.length+x.length+1+j.length+1+J.length+1+C.length:=by omega
  have cq8:¬ 9223372036854775807 < 3+i.length+x.length+1+j.length+1+J.length+1+C.length+V.length:=by omega
  have cq9:¬ 9223372036854775807 < 3+i.length+x.length+1+j.length+1+J.length+1+C.length+V.length+D.length:=by omega
  have ajz:¬ 9223372036854775807 < 3+i.length+x.length+1+j.length+1+J.length+1+C.length+V.length+D.length+1:=by omega
  have ajA:¬ 9223372036854775807 < 3+i.length+x.length+1+j.length+1+J.length+1+C.length+V.length+D.length+1+T10.length:=by omega
  have N:=O (k.o.alloc (.cells #[.int .i64 l.ix,.int .i64 y.ix] 3));have IA:=O (f.o.alloc (.cells #[.int .i64 l.ix,.int .i64 y.ix] 3));have HA:=O (H.o.alloc (.cells #[.int .i64 l.ix,.int .i64 y.ix] 3));have MA:=O (M.o.gT (o:=.cells #[.int .i64 l.ix,.int .i64 y.ix] 3));have S:=MA.o.size;have P:=O (Nq Uz.o k.o.lo);have F:=O fun b hb=>Nat.le_trans (amM (amY hg hw)) (k.o.lo b hb)
  clear k f H M;go_wp2_with (at_builtin;go_loud (refine wpList_append_lies _ rfl (.tmp 169) (.tmp 172) 26 rfl 0 3 j0 (.int .i64 0) 1 8 Tryz.underlying26 W Z hy1 hy2 rfl (by decide) _ B.ix.length (intCells B.ix) rfl N.o.row ⟨w13.heap.size,0,none⟩ 2 2 [.int .i64 l.ix,.int .i64 y.ix] rfl rfl (iK _ [.int .i64 l.ix,.int .i64 y.ix] _) (by intro u T;simp at T;rcases T with rfl | rfl <;> rfl) (by omega) (by simp only [maxLen];omega) (by omega) (amN _) _ rfl ?_);intro Sc FQ x9 r d v Q;have k:=O (N.o.grows (js:=[l.ix,y.ix]) HA.o r v S);have f:=O (IA.o.keep d P.o);have H:=O (HA.o.grow N.o d F.o);have M:=O (MA.o.grow N.o d);clear r d v Q)
  clear N IA HA MA S P F;obtain⟨Y,HY⟩:∃ Y:Bs,Hid ([102,117,110] ++ i ++ x ++ [40] ++ j ++ [41] ++ J ++ [58] ++ C ++ V ++ D ++ [61] ++ T10=Y):=⟨_,O rfl⟩;rw [show (⟨#[102,117,110]⟩:ByteArray) ++ aG (i) ++ aG (x) ++ (⟨#[40]⟩:ByteArray) ++ aG (j) ++ (⟨#[41]⟩:ByteArray) ++ aG (J) ++ (⟨#[58]⟩:ByteArray) ++ aG (C) ++ aG (V) ++ aG (D) ++ (⟨#[61]⟩:ByteArray) ++ aG (T10)=aG Y from by rw [← HY.o] <;> (simp only [← aj];rfl)];have lY:Y.length≤10000000:=by rw [← HY.o];simp only [amQ,List.length_cons,List.length_nil];omega
  refine (ptL H M k (by omega)).mono ?_;clear H M;rintro e x9⟨amA,aky,rfl,H,M,R⟩
  replace f:=O (R.o _ _ _ Uz.o f.o)
  clear R
  have HF:=O (show IL c x s.tl.tl=d9 (([],3,[102,117,110]) :: (i,1,x) :: gu [40] :: (B.pc ++ gu [41] :: (J,4,[58]) :: (l.pc ++ ([([32],3,[117,112,116,111]),(G8,2,U)] ++ (D,4,[61]) :: y.pc)))) (aM c (aM c (aM c (y.st)))) ⟨42,x,(q:Int),(B.ix ++ [l.ix,y.ix]),0⟩ from by
   unfold IL
   try simp only
   rw [Hm5.o,kR.o,r_.o,HUQ.o,if_pos h0,if_pos h0,HG8.o,HU.o,Uy.o,rZ.o,af5.o,ajb.o,ajc.o] <;> rfl)
  have DX:ah (([],3,[102,117,110]) :: (i,1,x) :: gu [40] :: (B.pc ++ gu [41] :: (J,4,[58]) :: (l.pc ++ ([([32],3,[117,112,116,111]),(G8,2,U)] ++ (D,4,[61]) :: y.pc)))) ++ iY s=Y:=by
   rw [Mt.o,List.append_nil];simp only [ah,aX,gu];rw [KI.o,HT6.o,ajs.o,← HY.o,← HV.o] <;> simp only [List.nil_append,List.append_nil,List.append_assoc,List.cons_append]
  have Q8:=O DX;clear DX;obtain⟨id,sM⟩:∃ id,Hid (Gs.id (aM c (aM c (aM c (y.st))))=id):=⟨_,O rfl⟩;rw [sM.o];have I:=(f.o.alloc (.cells #[.int .i64 id] 3)).row;have HRW:=O I;have cI:=H.o.blk.cell 2;clear I;go_wp2_with (at_builtin;go_loud (refine wpList_append_lies _ rfl (.tmp 234) (.tmp 236) 26 rfl 0 3 j0 (.int .i64 0) 1 8 Tryz.underlying26 W Z hy1 hy2 rfl (by decide) _ L.length (intCells L) rfl HRW.o ⟨x9.heap.size,0,none⟩ 1 1 [.int .i64 id] rfl rfl (cell_one_new _ _ _) (by intro u T;simp at T;subst T;rfl) (by omega) (by simp only [maxLen];omega) (by omega) (amN _) _ rfl ?_);intro gg cap x9 r d v Q;obtain⟨HK,H9,L9,B9⟩:=itB H M rfl Ev f hw hg r d v;have c14:=HK.cell 2;have f14:=HK.frozen 2;clear r d v HK)
  refine (iC g c _ _ ((aM c (aM c (aM c (y.st)))).put ⟨42,x,(q:Int),(B.ix ++ [l.ix,y.ix]),0⟩) _ _ _ H9.o).mono ?_;rintro e w99⟨rfl,Td,h,m⟩;have H5:=O h;have L5:=O (L9.o.mv H9.o m);have B5:=O (B9.o.trans (H9.o.low m));clear h m;have MG:=iR c ((aM c (aM c (aM c (y.st)))).put ⟨42,x,(q:Int),(B.ix ++ [l.ix,y.ix]),0⟩);obtain⟨G,HG⟩:∃ G,Hid (dQ c ((aM c (aM c (aM c (y.st)))).put ⟨42,x,(q:Int),(B.ix ++ [l.ix,y.ix]),0⟩)=G):=⟨_,O rfl⟩;rw [HG.o] at MG ⊢
  have cz0:¬ 9223372036854775807 < Y.length+G.length:=by omega
  have cz1:¬ 9223372036854775807 < Y.length+G.length+1:=by omega
  go_wp2_with fail;go_ret;exact itE (a:=d9 (([],3,[102,117,110]) :: (i,1,x) :: gu [40] :: (B.pc ++ gu [41] :: (J,4,[58]) :: (l.pc ++ ([([32],3,[117,112,116,111]),(G8,2,U)] ++ (D,4,[61]) :: y.pc)))) (aM c (aM c (aM c (y.st)))) ⟨42,x,(q:Int),(B.ix ++ [l.ix,y.ix]),0⟩) (HB.o.trans HF.o) Q8.o HG.o sM.o (by first|(rw [← aj];rfl)|(rw [← aj,← aj];rfl)) H5.o L5.o B5.o
end
section
open Go.RowKit Mist
theorem aeX (c:Bool)(g:Nat)(iv:Value)(w0 w:World)(s:Gs)(xs:List NV)(nv lv:Value)(j:List Int)(h:PL g c iv w s xs nv lv)(d:LG w0 w xs iv j)(i:w0.heap.size≤w.heap.size)(e:g < w0.heap.size)(a:j.length≤1000)(f:s.ns.length≤100000) :
  Calls Tryz.prog 10 #[.pointer (some ⟨g,0,none⟩)] w (nI g c w0 w j (iF c s)):=by
 have h7:s.nx % 7 < 7:=Nat.mod_lt _ (by decide);obtain b | b | b | b | b | b | b:s.nx % 7=0∨s.nx % 7=1∨s.nx % 7=2∨s.nx % 7=3∨s.nx % 7=4∨s.nx % 7=5∨s.nx % 7=6:=by omega
 ·exact X6 (O h) (O d) i e a f b
 ·exact aeU (O h) (O d) i e a f b
 ·exact agT (O h) (O d) i e a f b
 ·exact aeT (O h) (O d) i e a f b
 ·exact Tw (O h) (O d) i e a f b
 ·exact Tx (O h) (O d) i e a f b
 ·exact agS (O h) (O d) i e a f b
end
