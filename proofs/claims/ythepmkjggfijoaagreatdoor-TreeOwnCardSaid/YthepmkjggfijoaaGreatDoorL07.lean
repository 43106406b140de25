/-
  A part of the proof.
-/
import Derived.Test.YthepmkjggfijoaaGreatDoorSA
import Derived.Test.YthepmkjggfijoaaGreatDoorL06
set_option linter.all false
set_option maxRecDepth 100000
set_option maxHeartbeats 4000000
namespace Go.Proofs.YthepmkjggfijoaaGreatDoor
open Go.RowKit Mist
attribute [local go_sem] aj aH aS aB ak
theorem Dt (ay:Bool)(N:Nat)(hN:N≤700000)(m:Nat)(hm:m≤6)(g:Nat)(iv:Value)(w:World)(s:bB)(xs:List NV)(nv lv:Value)(h:dM g ay iv w s xs nv lv)(hn:s.ns.length≤N) :
  Calls Tryz.prog 115 #[.pointer (some ⟨g,0,none⟩),.int .i64 (m:Int)] w (Gs g ay iv w xs nv (bE ay m ⟨[],[],s⟩)):=by
 have C:=O h;have R:=O (iK.refl (g:=g) (w:=w) (xs:=xs) (nv:=nv));clear h;obtain⟨j0,b3,b7,b8,b9⟩:=info_parts gN;have b2:=C.o.lt;have b0:=O (vo ay);have a9:=O (show ∀ z,tl (bF ay 2 z).pc≤100∧(bF ay 2 z).st.ns.length≤z.ns.length+3 from fun z=>⟨Nat.le_trans (rO ay 2 z).1 (by omega),(rO ay 2 z).2⟩);have Xp:=O (jA.empty (w0:=w) C.o rfl (aaJ _));have HH:=O (C.o.alloc (.cells #[] 3));have MM:=O (R.o.dD (o:=.cells #[] 3));clear C R;go_in
 go_wp2_with fail;go_loopw [6,7,8] (fun sv l0 i wr=>∃ (k:Nat) (r:oG) (A:Option Addr) (c:Nat) (J:List NV) (gW nX:Value),k≤m∧i=.int .i64 k∧sv=.string (aM (aN r.pc))∧l0=.slice A r.ix.length c∧Hid (r.ix.length=k)∧(aN r.pc).length≤k * 200∧r.st.ns.length≤N+k * 10∧Hid (bE ay (m - k) r=bE ay m ⟨[],[],s⟩)∧Hid (jA w wr J (.slice A r.ix.length c) r.ix)∧Hid (dM g ay iv wr r.st J gW nX)∧Hid (iK g w xs nv wr J gW)) (fun _ _ i _=>m - (intOf i).toNat)
 case atStart=>exact⟨0,⟨[],[],s⟩,_,_,xs,nv,lv,aaL _,rfl,rfl,rfl,O rfl,by simp [aN],(by first|(simpa using hn)|(show s.tl.ns.length≤_;omega)),O rfl,Xp,HH,MM⟩
 case round =>
  clear Xp HH MM;obtain⟨wo,rfl⟩:∃ wo:World,wo=wr:=⟨_,rfl⟩;obtain⟨k,r,A,c,J,gW,d7,hk,rfl,rfl,rfl,B,b4,e1,HR,f,C,R⟩:=hrel;by_cases P:k < m
  ·obtain⟨mm,b5⟩:∃ mm,m - k=mm+1:=⟨m - k - 1,by omega⟩;have Fa:m - (k+1)=mm:=by omega
   rw [b5] at HR
   have U1:=O Fa;clear b5 Fa;obtain⟨X,hX⟩:∃ X,X=aN r.pc:=⟨_,rfl⟩;rw [← hX] at b4 ⊢
   have b1:=O hX;clear hX;by_cases a8:k=0
   ·subst a8;have S:r.ix=[]:=List.eq_nil_of_length_eq_zero B.o;have K:=O (show bE ay (mm+1) r=bE ay mm ⟨r.pc ++ (([],1,aY r.st.nx) :: bR [58] :: bN.on (bG ay (bF ay 2 r.st.tl).st) (bF ay 2 r.st.tl).pc),r.ix ++ [(aO ay (bF ay 2 r.st.tl).st).id],(aO ay (bF ay 2 r.st.tl).st).put ⟨34,aY r.st.nx,0,[(bF ay 2 r.st.tl).ix],0⟩⟩ by rw [bE];simp only [if_pos S]);clear S;go_wp2_with fail;refine (bV g ay _ _ (r.st) _ _ _ C.o).mono ?_;rintro e w1⟨rfl,nX,h,m⟩;have U:=O h;have M1:=O (R.o.BG m)
    replace f:=O (f.o.mv C.o m)
    clear h m C R;go_wp2_with fail;refine (fu (r.st).nx _).mono ?_;rintro e Sn⟨rfl,rfl⟩;have ly:=iR (r.st).nx;obtain⟨y,hy⟩:∃ y,y=aY (r.st).nx:=⟨_,rfl⟩;rw [← hy] at ly K ⊢
    clear hy;have d6:(r.st).tl.ns.length=r.st.ns.length:=rfl;have D:=O fun u=>xQ (pQ ay 2 (r.st).tl) u
    go_wp2_with fail;refine (b0.o g _ _ ((r.st).tl) _ _ _ U.o (by first | omega|(simp only [aF];omega))).mono ?_;rintro e w2⟨rfl,e4,Qu,Ap,h,m⟩;have Q:=O h;have M2:=O (M1.o.trans m)
    replace f:=O (f.o.mw U.o m)
    clear h m U M1;obtain⟨OB,SG⟩:=a9.o ((r.st).tl);obtain⟨j,a7⟩:∃ a,a=bF ay 2 ((r.st).tl):=⟨_,rfl⟩;rw [← a7] at Q OB SG ⊢
    obtain⟨T2,E5⟩:∃ T,T=aN j.pc:=⟨_,rfl⟩;have e2:T2.length≤100:=by rw [E5];exact OB
    rw [← E5];have c0:=O a7;have c5:=O E5;clear a7 E5 OB
    (try simp only [aF] at SG)
    rw [← c0.o] at K D
    have a0:¬ 9223372036854775807 < X.length+y.length:=by omega
    have a1:¬ 9223372036854775807 < X.length+y.length+1:=by omega
    go_wp2_with fail;refine (dF g ay _ _ (j.st) _ _ _ Q.o).mono ?_;rintro e w3⟨rfl,Mc,h,m⟩;have V:=O h;have M3:=O (M2.o.BG m)
    replace f:=O (f.o.mv Q.o m)
    clear h m Q M2;have d3:=eD ay (j.st);obtain⟨G3,a5⟩:∃ G,G=bG ay (j.st):=⟨_,rfl⟩;rw [← a5] at d3 ⊢
    have c2:=O a5;clear a5;clear a0 a1;rw [← c2.o] at K
    have c7:¬ 9223372036854775807 < X.length+y.length:=by omega
    have c8:¬ 9223372036854775807 < X.length+y.length+1:=by omega
    have c9:¬ 9223372036854775807 < X.length+y.length+1+G3.length:=by omega
    have cb3:¬ 9223372036854775807 < X.length+y.length+1+G3.length+T2.length:=by omega
    have Ar:=O (f.o.apart (n:=1) (c:=1) (aaJ _))
    replace f:=O (f.o.alloc (.cells (intCells [j.ix]).toArray 3))
    have SQ:=O (Mx w3 [j.ix]);have HK:=O (V.o.alloc (.cells (intCells [j.ix]).toArray 3));have SS:=O (M3.o.dD (o:=.cells (intCells [j.ix]).toArray 3));have q:=M3.o.size;clear V M3;go_wp2_with fail;obtain⟨Y,L⟩:∃ Y:Bs,Y=X ++ y ++ [58] ++ G3 ++ T2:=⟨_,rfl⟩;rw [show aM (X ++ y) ++ (⟨#[58]⟩:ByteArray) ++ aM (G3) ++ aM (T2)=aM Y from by rw [L] <;> (simp only [← ak];rfl)];have zR:Y.length≤10000000:=by rw [L];simp only [aaO,List.length_cons,List.length_nil];omega
    have HY:=O L;clear L;refine (dG g ay _ _ (aO ay (j.st)) _ _ _ HK.o 34 y 0 _ [j.ix] SQ.o (by first | omega|(simp only [aF,bW];omega))).mono ?_;rintro e w4⟨rfl,yH,h,m⟩
    replace f:=O (f.o.put HK.o h m Ar.o)
    have H4:=O h;have M4:=O (SS.o.uh (x:=(⟨34,y,0,[j.ix],0⟩,(.slice (some ⟨w3.heap.size,0,none⟩) 1 1))) m (BQ q));clear h m;have v:=O (f.o.alloc (.cells #[.int .i64 (bB.id (aO ay (j.st)))] 3));have W:=O (H4.o.alloc (.cells #[.int .i64 (bB.id (aO ay (j.st)))] 3));have MA:=O (M4.o.dD (o:=(.cells #[.int .i64 (bB.id (aO ay (j.st)))] 3)));have q:=MA.o.size;have d5:r.ix.length≤6:=by have:=B.o;omega
    go_wp2_with (at_builtin;go_loud (refine wpList_append_lies _ rfl (.tmp 42) (.tmp 49) 24 rfl 0 3 j0 (.int .i64 0) 1 8 Tryz.underlying24 b3 b7 b8 b9 rfl (by decide) _ r.ix.length (intCells r.ix) rfl v.o.row ⟨w4.heap.size,0,none⟩ 1 1 [.int .i64 (bB.id (aO ay (j.st)))] rfl rfl (cell_one_new _ _ _) (by simp [Value.oneCell']) (by omega) (by simp only [maxLen];omega) (by omega) (aaL _) _ rfl ?_);intro GA AJ Tx t d I P;have Xl:=O (v.o.grow W.o t I q);have Ww:=O (W.o.grow v.o d (fun b hb=>aaK (aaW b2 (v.o.lo b hb))));have Xn:=O (MA.o.grow v.o d);clear t d I P)
    clear v W MA q f H4 M4;have F:=O (show Y=aN (r.pc ++ (([],1,y) :: bR [58] :: bN.on G3 j.pc)) by rw [qZ,HY.o,← b1.o];simp only [aN,bR];rw [D.o,c5.o];simp only [List.nil_append,List.append_nil,List.append_assoc,List.cons_append]);exact⟨⟨0+1,⟨r.pc ++ (([],1,y) :: bR [58] :: bN.on G3 j.pc),r.ix ++ [bB.id (aO ay (j.st))],(aO ay (j.st)).put ⟨34,y,0,[j.ix],0⟩⟩,_,_,_,_,_,by omega,by go_num,congrArg Value.string (congrArg aM F.o),by rw [aaO];rfl,O (by rw [aaO,B.o];rfl),by rw [← F.o,HY.o];simp only [aaO,List.length_cons,List.length_nil];omega,by show (bB.put _ _).ns.length≤_;rw [kJ,aF];omega,O (by show bE ay (m - (0+1)) _=_;rw [U1.o,← K.o,HR.o]),by rw [aaO];exact Xl,Ww,Xn⟩,by simp [intOf];omega⟩
   ·have b6:r.ix ≠ []:=fun h=>a8 (by rw [← B.o,h];rfl)
    have K:=O (show bE ay (mm+1) r=bE ay mm ⟨r.pc ++ (bR [44] :: (bG ay r.st,1,aY (aO ay r.st).nx) :: bR [58] :: bN.on (bG ay (bF ay 2 (aO ay r.st).tl).st) (bF ay 2 (aO ay r.st).tl).pc),r.ix ++ [(aO ay (bF ay 2 (aO ay r.st).tl).st).id],(aO ay (bF ay 2 (aO ay r.st).tl).st).put ⟨34,aY (aO ay r.st).nx,0,[(bF ay 2 (aO ay r.st).tl).ix],0⟩⟩ by rw [bE];simp only [if_neg b6]);have d8:(0:Int) < (k:Int):=by omega
    clear b6 a8;go_wp2_with fail;refine (dF g ay _ _ (r.st) _ _ _ C.o).mono ?_;rintro e w1⟨rfl,nX,h,m⟩;have U:=O h;have M1:=O (R.o.BG m)
    replace f:=O (f.o.mv C.o m)
    clear h m C R;have d2:=eD ay (r.st);obtain⟨G1,a4⟩:∃ G,G=bG ay (r.st):=⟨_,rfl⟩;rw [← a4] at d2 ⊢
    have c1:=O a4;clear a4;rw [← c1.o] at K
    have d0:¬ 9223372036854775807 < 1+G1.length:=by omega
    have d1:¬ 9223372036854775807 < X.length+(1+G1.length):=by omega
    go_wp2_with fail;obtain⟨Z,hZ⟩:∃ Z:Bs,Z=X ++ ([44] ++ G1):=⟨_,rfl⟩;rw [show (aM X ++ ((⟨#[44]⟩:ByteArray) ++ aM G1))=aM Z from by rw [hZ,← ak,← ak];rfl];have e0:Z.length≤X.length+9:=by rw [hZ];simp only [aaO,List.length_cons,List.length_nil];omega
    have HZ:=O hZ;clear hZ d0 d1;refine (bV g ay _ _ (aO ay (r.st)) _ _ _ U.o).mono ?_;rintro e w2⟨rfl,Ap,h,m⟩;have Q:=O h;have M2:=O (M1.o.BG m)
    replace f:=O (f.o.mv U.o m)
    clear h m U M1;go_wp2_with fail;refine (fu ((aO ay r.st)).nx _).mono ?_;rintro e Sn⟨rfl,rfl⟩;have ly:=iR ((aO ay r.st)).nx;obtain⟨y,hy⟩:∃ y,y=aY ((aO ay r.st)).nx:=⟨_,rfl⟩;rw [← hy] at ly K ⊢
    clear hy;have d6:((aO ay r.st)).tl.ns.length=r.st.ns.length:=by show (aO ay r.st).ns.length=_;rw [aF]
    have D:=O fun u=>xQ (pQ ay 2 ((aO ay r.st)).tl) u
    go_wp2_with fail;refine (b0.o g _ _ ((aO ay (r.st)).tl) _ _ _ Q.o (by first | omega|(simp only [aF];omega))).mono ?_;rintro e w3⟨rfl,Xj,FM,Mc,h,m⟩;have V:=O h;have M3:=O (M2.o.trans m)
    replace f:=O (f.o.mw Q.o m)
    clear h m Q M2;obtain⟨XQ,Tp⟩:=a9.o ((aO ay (r.st)).tl);obtain⟨l,FK⟩:∃ a,a=bF ay 2 ((aO ay (r.st)).tl):=⟨_,rfl⟩;rw [← FK] at V XQ Tp ⊢
    obtain⟨T3,TK⟩:∃ T,T=aN l.pc:=⟨_,rfl⟩;have e3:T3.length≤100:=by rw [TK];exact XQ
    rw [← TK];have gM:=O FK;have c6:=O TK;clear FK TK XQ
    (try simp only [aF] at Tp)
    rw [← gM.o] at K D
    have a0:¬ 9223372036854775807 < Z.length+y.length:=by omega
    have a1:¬ 9223372036854775807 < Z.length+y.length+1:=by omega
    go_wp2_with fail;refine (dF g ay _ _ (l.st) _ _ _ V.o).mono ?_;rintro e w4⟨rfl,GU,h,m⟩;have H4:=O h;have M4:=O (M3.o.BG m)
    replace f:=O (f.o.mv V.o m)
    clear h m V M3;have d4:=eD ay (l.st);obtain⟨G4,a6⟩:∃ G,G=bG ay (l.st):=⟨_,rfl⟩;rw [← a6] at d4 ⊢
    have Jf:=O a6;clear a6;clear a0 a1;rw [← Jf.o] at K
    have c7:¬ 9223372036854775807 < Z.length+y.length:=by omega
    have c8:¬ 9223372036854775807 < Z.length+y.length+1:=by omega
    have c9:¬ 9223372036854775807 < Z.length+y.length+1+G4.length:=by omega
    have cb3:¬ 9223372036854775807 < Z.length+y.length+1+G4.length+T3.length:=by omega
    have Ar:=O (f.o.apart (n:=1) (c:=1) (aaJ _))
    replace f:=O (f.o.alloc (.cells (intCells [l.ix]).toArray 3))
    have SQ:=O (Mx w4 [l.ix]);have HK:=O (H4.o.alloc (.cells (intCells [l.ix]).toArray 3));have SS:=O (M4.o.dD (o:=.cells (intCells [l.ix]).toArray 3));have q:=M4.o.size;clear H4 M4;go_wp2_with fail;obtain⟨Y,L⟩:∃ Y:Bs,Y=Z ++ y ++ [58] ++ G4 ++ T3:=⟨_,rfl⟩;rw [show aM (Z ++ y) ++ (⟨#[58]⟩:ByteArray) ++ aM (G4) ++ aM (T3)=aM Y from by rw [L] <;> (simp only [← ak];rfl)];have zR:Y.length≤10000000:=by rw [L];simp only [aaO,List.length_cons,List.length_nil];omega
    have HY:=O L;clear L;refine (dG g ay _ _ (aO ay (l.st)) _ _ _ HK.o 34 y 0 _ [l.ix] SQ.o (by first | omega|(simp only [aF,bW];omega))).mono ?_;rintro e w5⟨rfl,Fu,h,m⟩
    replace f:=O (f.o.put HK.o h m Ar.o)
    have H5:=O h;have M5:=O (SS.o.uh (x:=(⟨34,y,0,[l.ix],0⟩,(.slice (some ⟨w4.heap.size,0,none⟩) 1 1))) m (BQ q));clear h m;have v:=O (f.o.alloc (.cells #[.int .i64 (bB.id (aO ay (l.st)))] 3));have W:=O (H5.o.alloc (.cells #[.int .i64 (bB.id (aO ay (l.st)))] 3));have MA:=O (M5.o.dD (o:=(.cells #[.int .i64 (bB.id (aO ay (l.st)))] 3)));have q:=MA.o.size;have d5:r.ix.length≤6:=by have:=B.o;omega
    go_wp2_with (at_builtin;go_loud (refine wpList_append_lies _ rfl (.tmp 42) (.tmp 49) 24 rfl 0 3 j0 (.int .i64 0) 1 8 Tryz.underlying24 b3 b7 b8 b9 rfl (by decide) _ r.ix.length (intCells r.ix) rfl v.o.row ⟨w5.heap.size,0,none⟩ 1 1 [.int .i64 (bB.id (aO ay (l.st)))] rfl rfl (cell_one_new _ _ _) (by simp [Value.oneCell']) (by omega) (by simp only [maxLen];omega) (by omega) (aaL _) _ rfl ?_);intro GA AJ Tx t d I P;have Xl:=O (v.o.grow W.o t I q);have Ww:=O (W.o.grow v.o d (fun b hb=>aaK (aaW b2 (v.o.lo b hb))));have Xn:=O (MA.o.grow v.o d);clear t d I P)
    clear v W MA q f H5 M5;have F:=O (show Y=aN (r.pc ++ (bR [44] :: (G1,1,y) :: bR [58] :: bN.on G4 l.pc)) by rw [qZ,HY.o,HZ.o,← b1.o];simp only [aN,bR];rw [D.o,c6.o];simp only [List.nil_append,List.append_nil,List.append_assoc,List.cons_append]);exact⟨⟨k+1,⟨r.pc ++ (bR [44] :: (G1,1,y) :: bR [58] :: bN.on G4 l.pc),r.ix ++ [bB.id (aO ay (l.st))],(aO ay (l.st)).put ⟨34,y,0,[l.ix],0⟩⟩,_,_,_,_,_,by omega,by go_num,congrArg Value.string (congrArg aM F.o),by rw [aaO];rfl,O (by rw [aaO,B.o];rfl),by rw [← F.o,HY.o];simp only [aaO,List.length_cons,List.length_nil];omega,by show (bB.put _ _).ns.length≤_;rw [kJ,aF];omega,O (by show bE ay (m - (k+1)) _=_;rw [U1.o,← K.o,HR.o]),by rw [aaO];exact Xl,Ww,Xn⟩,by simp [intOf];omega⟩
  ·obtain rfl:k=m:=by omega
   have c4:=O (show bE ay k ⟨[],[],s⟩=r by rw [← HR.o,Nat.sub_self];rfl);clear HR;go_wp2_with fail;go_ret2
   rw [c4.o];exact⟨A,c,J,gW,d7,rfl,f.o,C.o,R.o⟩
theorem Di (ay:Bool)(n:Int)(k:-1000≤n)(l:n≤1000)(g:Nat)(iv:Value)(w:World)(s:bB)(xs:List NV)(nv lv:Value)(h:dM g ay iv w s xs nv lv)(r:s.ns.length≤900000) :
  Calls Tryz.prog 112 #[.pointer (some ⟨g,0,none⟩),.int .i64 n] w (kK g ay iv w xs nv (bX n s)):=by
 have b:=O h;have c:=O (iK.refl (g:=g) (w:=w) (xs:=xs) (nv:=nv));clear h;go_in
 go_wp2_with fail;refine (rQ (n) (by omega) (by omega) g ay _ _ (s) _ _ _ b.o).mono ?_;rintro e t⟨rfl,a⟩;have d:=O (b.o.below a);have i:=O (c.o.aL a);clear a b c;go_wp2_with fail;refine (dG g ay _ _ (s) _ _ _ d.o 1 [] n _ [] (cB.none_ _) (by first | omega|(simp only [aF,bW];omega))).mono ?_;rintro e u⟨rfl,q,h,m⟩;have f:=O h;have j:=O (i.o.uh (x:=(⟨1,[],n,[],0⟩,(.slice none 0 0))) m oK);clear h m;go_wp2_with fail;go_ret2
 refine⟨?_,_,_,_,f.o,j.o⟩
 show _=Ending.returned (.tuple #[.string (aM (aN (fE n))),.int .i64 (s).id])
 rw [A_];rfl
def Kp (w:World)(xs:List NV)(w':World)(xs':List NV):Prop:=∀ (w1:World) (v:Value) (ks:List Int),jA w1 w xs v ks→jA w1 w' xs' v ks
theorem kp {w b w1:World}{xs a:List NV}{v:Value}{ks:List Int}(R:Hid (Kp w xs b a))(L:Hid (jA w1 w xs v ks)):Hid (jA w1 b a v ks):=O (R.o _ _ _ L.o)
theorem on_ne {I:bN}(h:I ≠ [])(g:Bs):aN (bN.on g I)=g ++ aN I:=by
 cases I with
 | nil=>exact absurd rfl h
 | cons x I =>
  obtain⟨a,k,t⟩:=x
  show (g ++ a) ++ (t ++ aN I)=g ++ (a ++ (t ++ aN I))
  rw [List.append_assoc]
theorem Zk (n:Int):fE n ≠ []:=by unfold fE;split <;> simp
structure JC (ay:Bool) (E:bB→j4) (N:Nat) (dv:Value):Prop where
 o:∀ (g:Nat) (iv:Value) (w:World) (s:bB) (xs:List NV) (nv lv:Value),dM g ay iv w s xs nv lv→s.ns.length≤N →
  Calls Tryz.prog 117 #[.pointer (some ⟨g,0,none⟩),dv] w (kK g ay iv w xs nv (E s))
 bd:abL E 100000 10000
 good:∀ s,yx (E s).pc
def LsC (ay:Bool)(E:bB→j4)(N:Nat)(dv:Value):Prop:=∀ (m:Nat),m≤4→∀ (g:Nat) (iv:Value) (w:World) (s:bB) (xs:List NV) (nv lv:Value),dM g ay iv w s xs nv lv→s.ns.length≤N →
 Calls Tryz.prog 176 #[.pointer (some ⟨g,0,none⟩),.int .i64 (m:Int),dv] w (Gs g ay iv w xs nv (bK ay E m ⟨[],[],s⟩))
theorem CV {E:bB→j4}{L C b a:Nat}(h:abL E L C)(h1:L≤b)(h2:C≤a):abL E b a:=⟨fun s=>Nat.le_trans (h.text s) h1,fun s=>Nat.le_trans (h.nodes s) (Nat.add_le_add_left h2 _)⟩
theorem TY (ay:Bool){E:bB→j4}{L C:Nat}(h:abL E L C)(m:Nat)(a:m≤4)(s:bB):tl (bK ay E m ⟨[],[],s⟩).pc≤4 * (L+9)∧(bK ay E m ⟨[],[],s⟩).st.ns.length≤s.ns.length+4 * C∧(bK ay E m ⟨[],[],s⟩).ix.length=m:=by
 obtain⟨h1,h2,h3⟩:=uT ay h m ⟨[],[],s⟩;have b:m * (L+9)≤4 * (L+9):=Nat.mul_le_mul_right _ a;have c:m * C≤4 * C:=Nat.mul_le_mul_right _ a;rw [eU] at h1
 have h2:(bK ay E m ⟨[],[],s⟩).st.ns.length≤s.ns.length+m * C:=h2;have h3:(bK ay E m ⟨[],[],s⟩).ix.length=0+m:=h3;exact⟨by omega,by omega,by omega⟩
section
variable {g N:Nat} {ay:Bool} {iv Da nv lv dv:Value} {w0 w:World} {s:bB} {DV xs:List NV} {E:bB→j4} (H:Hid (dM g ay iv w s xs nv lv)) (M:Hid (iK g w0 DV Da w xs nv))
include H M
theorem xP:Calls Tryz.prog 110 #[.pointer (some ⟨g,0,none⟩)] w fun e a=>∃ b,e=.returned (.int .i64 s.nx)∧s.tl.ns.length=s.ns.length∧Hid (dM g ay iv a s.tl xs nv b)∧Hid (iK g w0 DV Da a xs nv)∧Hid (Kp w xs a xs):=by
 refine (bV g ay iv _ s _ _ _ H.o).mono ?_;rintro e a ⟨rfl,b,h,m⟩;exact⟨b,rfl,rfl,O h,O (M.o.BG m),O fun d v c L=>L.mv H.o m⟩
theorem vD:Calls Tryz.prog 113 #[.pointer (some ⟨g,0,none⟩)] w fun e a=>∃ G b,e=.returned (.string (aM G))∧Hid (bG ay s=G)∧G.length≤8∧(aO ay s).ns.length=s.ns.length∧Hid (dM g ay iv a (aO ay s) xs nv b)∧Hid (iK g w0 DV Da a xs nv)∧Hid (Kp w xs a xs):=by
 refine (dF g ay iv _ s _ _ _ H.o).mono ?_;rintro e a ⟨rfl,b,h,m⟩;exact⟨_,b,rfl,O rfl,eD ay s,by rw [aF],O h,O (M.o.BG m),O fun d v c L=>L.mv H.o m⟩
theorem smH {t:Bs}(c:t.length≤10000000):Calls Tryz.prog 195 #[.pointer (some ⟨g,0,none⟩),.string (aM t)] w fun e b=>∃ S a,e=.returned (.string (aM S))∧Hid (vV ay t s=S)∧(fK ay s).ns.length=s.ns.length∧Hid (dM g ay iv b (fK ay s) xs nv a)∧Hid (iK g w0 DV Da b xs nv):=by
 refine (Ig g ay iv _ s _ _ _ H.o t (by omega)).mono ?_;rintro e b ⟨rfl,a,h,m⟩;exact⟨_,a,rfl,O rfl,by rw [bW],O h,O (M.o.BG m)⟩
theorem Gq (X:Hid (JC ay E N dv))(f:s.ns.length≤N):Calls Tryz.prog 117 #[.pointer (some ⟨g,0,none⟩),dv] w fun e c=>∃ a T b eO d,e=.returned (.tuple #[.string (aM T),.int .i64 a.ix])∧Hid (E s=a)∧Hid (aN a.pc=T)∧Hid (∀ u,aN (bN.on u a.pc)=u ++ T)∧T.length≤100000∧a.st.ns.length≤s.ns.length+10000∧Hid (dM g ay iv c a.st b eO d)∧Hid (iK g w0 DV Da c b eO)∧Hid (Kp w xs c b):=by
 refine (X.o.o g iv _ s _ _ _ H.o f).mono ?_;rintro e c ⟨rfl,b,eO,d,h,m⟩;exact⟨_,_,b,eO,d,rfl,O rfl,O rfl,O (xQ (X.o.good s)),X.o.bd.text s,X.o.bd.nodes s,O h,O (M.o.trans m),O fun j v i L=>L.mw H.o m⟩
theorem lsH (X:Hid (JC ay E N dv)){j:Nat}{d:Value}(q:Hid (LsC ay E j d)){m:Nat}(n:m≤4)(C:s.ns.length≤j):Calls Tryz.prog 176 #[.pointer (some ⟨g,0,none⟩),.int .i64 (m:Int),d] w fun e f=>∃ r T A c a eO i,e=.returned (.tuple #[.string (aM T),.slice A r.ix.length c])∧Hid (bK ay E m ⟨[],[],s⟩=r)∧Hid (aN r.pc=T)∧Hid (m ≠ 0→∀ u,aN (bN.on u r.pc)=u ++ T)∧Hid (m=0→r.pc=[])∧T.length≤500000∧r.st.ns.length≤s.ns.length+40000∧Hid (jA w0 f a (.slice A r.ix.length c) r.ix)∧Hid (dM g ay iv f r.st a eO i)∧Hid (iK g w0 DV Da f a eO)∧Hid (Kp w xs f a):=by
 refine (q.o m n g iv _ s _ _ _ H.o C).mono ?_;rintro e f ⟨A,c,a,eO,i,rfl,l,h,k⟩;obtain⟨t,D,x⟩:=TY ay X.o.bd m n s;have B:=ny ay X.o.good m ⟨[],[],s⟩ (li0 _);exact⟨_,_,A,c,a,eO,i,rfl,O rfl,O rfl,O fun h0=>xQ (B.2 fun h=>h0 (by rw [← x,h];rfl)),O fun h0=>by rw [h0];rfl,Nat.le_trans t (by omega),by omega,O ⟨l.row,fun b y=>Nat.le_trans M.o.size (l.lo b y),l.far⟩,O h,O (M.o.trans k),O fun G v F L=>L.mw H.o k⟩
theorem SI {K:Nat}{x:Bs}{n:Int}(ks:List Int)(d:ks.length≤1000)(f:s.ns.length≤1000000):Calls Tryz.prog 114 #[.pointer (some ⟨g,0,none⟩),.agg #[.int .u8 K,.string (aM x),.int .i64 n,.slice (some ⟨w.heap.size,0,none⟩) ks.length ks.length,.int .i64 0]] (w.alloc (.cells (intCells ks).toArray 3)) fun e b=>∃ a eO,e=.returned (.int .i64 s.id)∧Hid (dM g ay iv b (s.put ⟨K,x,n,ks,0⟩) a eO lv)∧Hid (iK g w0 DV Da b a eO)∧Hid (Kp w xs b a):=by
 have c:=H.o.alloc (.cells (intCells ks).toArray 3);refine (dG g ay iv _ s _ _ _ c K x n _ ks (Mx w ks d) f).mono ?_;rintro e b ⟨rfl,eO,h,m⟩;exact⟨_,eO,rfl,O h,O (M.o.dD.uh m (BQ M.o.size)),O fun j v i L=>(L.alloc _).put c h m (L.apart (aaJ _))⟩
theorem ptN {K:Nat}{x:Bs}{n:Int}(c:s.ns.length≤1000000):Calls Tryz.prog 114 #[.pointer (some ⟨g,0,none⟩),.agg #[.int .u8 K,.string (aM x),.int .i64 n,.slice none 0 0,.int .i64 0]] w fun e b=>∃ a eO,e=.returned (.int .i64 s.id)∧Hid (dM g ay iv b (s.put ⟨K,x,n,[],0⟩) a eO lv)∧Hid (iK g w0 DV Da b a eO)∧Hid (Kp w xs b a):=by
 refine (dG g ay iv _ s _ _ _ H.o K x n _ [] (cB.none_ _) c).mono ?_;rintro e b ⟨rfl,eO,h,m⟩;exact⟨_,eO,rfl,O h,O (M.o.uh m oK),O fun f v d L=>L.put H.o h m (.inl rfl)⟩
theorem Wd {K:Nat}{x:Bs}{n:Int}{A:Option Addr}{c k:Nat}{ks:List Int}(L:Hid (jA w0 w xs (.slice A k c) ks))(f:s.ns.length≤1000000):Calls Tryz.prog 114 #[.pointer (some ⟨g,0,none⟩),.agg #[.int .u8 K,.string (aM x),.int .i64 n,.slice A k c,.int .i64 0]] w fun e d=>∃ a eO,e=.returned (.int .i64 s.id)∧Hid (dM g ay iv d (s.put ⟨K,x,n,ks,0⟩) a eO lv)∧Hid (iK g w0 DV Da d a eO)∧Hid (∀ (w1:World) (v:Value) (js:List Int),(∀ b,v.ownBlock=some b→b < w0.heap.size)→jA w1 w xs v js→jA w1 d a v js):=by
 refine (dG g ay iv _ s _ _ _ H.o K x n _ ks L.o.row f).mono ?_;rintro e d ⟨rfl,eO,h,m⟩
 refine⟨_,eO,rfl,O h,O (M.o.uh m L.o.lo),O fun w1 v js hv Q=>Q.put H.o h m ?_⟩
 rcases h9:(Value.slice A k c).ownBlock with _ | b
 ·exact .inl rfl
 ·right
  intro e;have h1:=L.o.lo b h9;have h2:=hv b e.symm;omega
theorem itH {n:Int}(h0:-1000000≤n)(h1:n≤1000000):Calls Tryz.prog 77 #[.int .i64 n] w fun e a=>∃ U,e=.returned (.string (aM U))∧Hid (Go.Lib.itoa n=U)∧Hid (dM g ay iv a s xs nv lv)∧Hid (iK g w0 DV Da a xs nv)∧Hid (Kp w xs a xs):=by
 refine (rQ n h0 h1 g ay iv _ s _ _ _ H.o).mono ?_;rintro e a ⟨rfl,b⟩;exact⟨_,rfl,O rfl,O (H.o.below b),O (M.o.aL b),O fun d v c L=>L.below b⟩
end
theorem Nk (b:Nat)(w:World):Calls Tryz.prog 111 #[.int .i64 (b:Int)] w fun e a=>∃ x,e=.returned (.string (aM x))∧Hid (aY b=x)∧x.length≤4∧a=w:=by
 refine (fu b w).mono ?_;rintro e a ⟨rfl,rfl⟩;exact⟨_,rfl,O rfl,iR b,rfl⟩
theorem aar {ay:Bool}{d N:Nat}{E:bB→j4}(R:N≤900000)(hd:d≤100)(X:Hid (JC ay E (N+50000) (.int .i64 (d:Int))))(b:Nat)(A:b < 75)(l:b % 2=0){g:Nat}{iv:Value}{w:World}{s:bB}{xs:List NV}{nv lv:Value}(H:Hid (dM g ay iv w s xs nv lv))(S:s.ns.length≤N) :
  Calls Tryz.prog 174 #[.pointer (some ⟨g,0,none⟩),.int .i64 (b:Int),.int .i64 ((d:Int)+1)] w (kK g ay iv w xs nv (Ba ay E b s)):=by
 have M:=O (iK.refl (g:=g) (w:=w) (xs:=xs) (nv:=nv));have zd:IntKind.i64.wrap ((d:Int)+1 - 1)=(d:Int):=by rw [Int.add_sub_cancel];exact IntWalk.i64_in _ ⟨by omega,by omega⟩
 have G:(b:Int) < 75:=by omega
 have B:Int.tmod (b:Int) 2=0:=by rw [Int.tmod_eq_emod_of_nonneg (by omega)];omega
 have m:=O (show Ba ay E b s=zV ay E b s by unfold Ba;rw [if_pos A]);have k:=O l;clear l;go_in
 go_wp2_with fail;refine (Gq H M X (by omega)).mono ?_;clear H M;rintro e W⟨a,j,D,Q,T,rfl,f,r,v,C,x,H,M,-⟩;go_wp2_with fail;refine (vD H M).mono ?_;clear H M;rintro e Z⟨c,I,rfl,h,y,U,H,M,-⟩;have L:¬ 9223372036854775807 < 3+c.length:=by omega
 have P:¬ 9223372036854775807 < 3+c.length+j.length:=by omega
 go_wp2_with fail;obtain⟨Y,i⟩:∃ Y:Bs,Hid ([110,111,116] ++ c ++ j=Y):=⟨_,O rfl⟩;rw [show (⟨#[110,111,116]⟩:ByteArray) ++ aM (c) ++ aM (j)=aM Y from by rw [← i.o] <;> (simp only [← ak];rfl)];have zR:Y.length≤10000000:=by rw [← i.o];simp only [aaO,List.length_cons,List.length_nil];omega
 refine (smH H M (t:=Y) (by omega)).mono ?_;clear H M;rintro e w3⟨K,J,rfl,u,V,H,M⟩;go_wp2_with fail;refine (SI H M [a.ix] (by simp) (by omega)).mono ?_;clear H M;rintro e w4⟨F,yH,rfl,H,M,-⟩;go_wp2_with fail;go_ret2
 have n:=O (show zV ay E b s=bJ (fG ay (([],3,[110,111,116]) :: bN.on c a.pc) (aO ay (a.st))) (fK ay (aO ay (a.st))) ⟨5,[],0,[a.ix],0⟩ from by
  unfold zV
  try simp only
  rw [f.o,h.o,if_pos k.o,if_pos k.o] <;> rfl)
 rw [m.o,n.o]
 refine⟨?_,_,_,_,H.o,M.o⟩
 show _=Ending.returned (.tuple #[.string (aM (aN (fG ay (([],3,[110,111,116]) :: bN.on c a.pc) (aO ay (a.st))))),.int .i64 (fK ay (aO ay (a.st))).id])
 have q:aN (([],3,[110,111,116]) :: bN.on c a.pc)=Y:=by
  simp only [aN,qZ,bR];rw [v.o,← i.o] <;> simp only [List.nil_append,List.append_nil,List.append_assoc,List.cons_append]
 rw [pO,q,u.o];rfl
theorem ZR {ay:Bool}{d N:Nat}{E:bB→j4}(R:N≤900000)(hd:d≤100)(X:Hid (JC ay E (N+50000) (.int .i64 (d:Int))))(b:Nat)(A:b < 75)(l:¬ b % 2=0){g:Nat}{iv:Value}{w:World}{s:bB}{xs:List NV}{nv lv:Value}(H:Hid (dM g ay iv w s xs nv lv))(S:s.ns.length≤N) :
  Calls Tryz.prog 174 #[.pointer (some ⟨g,0,none⟩),.int .i64 (b:Int),.int .i64 ((d:Int)+1)] w (kK g ay iv w xs nv (Ba ay E b s)):=by
 have M:=O (iK.refl (g:=g) (w:=w) (xs:=xs) (nv:=nv));have zd:IntKind.i64.wrap ((d:Int)+1 - 1)=(d:Int):=by rw [Int.add_sub_cancel];exact IntWalk.i64_in _ ⟨by omega,by omega⟩
 have G:(b:Int) < 75:=by omega
 have B:Int.tmod (b:Int) 2=1:=by rw [Int.tmod_eq_emod_of_nonneg (by omega)];omega
 have m:=O (show Ba ay E b s=zV ay E b s by unfold Ba;rw [if_pos A]);have k:=O l;clear l;go_in
 go_wp2_with fail;refine (Gq H M X (by omega)).mono ?_;clear H M;rintro e W⟨a,j,D,Q,T,rfl,f,r,v,C,x,H,M,-⟩;go_wp2_with fail;refine (vD H M).mono ?_;clear H M;rintro e Z⟨c,I,rfl,h,y,U,H,M,-⟩;have L:¬ 9223372036854775807 < 1+c.length:=by omega
 have P:¬ 9223372036854775807 < 1+c.length+j.length:=by omega
 go_wp2_with fail;obtain⟨Y,i⟩:∃ Y:Bs,Hid ([45] ++ c ++ j=Y):=⟨_,O rfl⟩;rw [show (⟨#[45]⟩:ByteArray) ++ aM (c) ++ aM (j)=aM Y from by rw [← i.o] <;> (simp only [← ak];rfl)];have zR:Y.length≤10000000:=by rw [← i.o];simp only [aaO,List.length_cons,List.length_nil];omega
 refine (smH H M (t:=Y) (by omega)).mono ?_;clear H M;rintro e w3⟨K,J,rfl,u,V,H,M⟩;go_wp2_with fail;refine (SI H M [a.ix] (by simp) (by omega)).mono ?_;clear H M;rintro e w4⟨F,yH,rfl,H,M,-⟩;go_wp2_with fail;go_ret2
 have n:=O (show zV ay E b s=bJ (fG ay (bR [45] :: bN.on c a.pc) (aO ay (a.st))) (fK ay (aO ay (a.st))) ⟨4,[],0,[a.ix],0⟩ from by
  unfold zV
  try simp only
  rw [f.o,h.o,if_neg k.o,if_neg k.o] <;> rfl)
 rw [m.o,n.o]
 refine⟨?_,_,_,_,H.o,M.o⟩
 show _=Ending.returned (.tuple #[.string (aM (aN (fG ay (bR [45] :: bN.on c a.pc) (aO ay (a.st))))),.int .i64 (fK ay (aO ay (a.st))).id])
 have q:aN (bR [45] :: bN.on c a.pc)=Y:=by
  simp only [aN,qZ,bR];rw [v.o,← i.o] <;> simp only [List.nil_append,List.append_nil,List.append_assoc,List.cons_append]
 rw [pO,q,u.o];rfl
theorem Vg (r:Nat)(h:r < 13)(w:World):Sem.run Tryz.prog (Instr.index 92 (.agg #[.string ⟨#[43]⟩,.string ⟨#[45]⟩,.string ⟨#[42]⟩,.string ⟨#[47]⟩,.string ⟨#[37]⟩,.string ⟨#[61,61]⟩,.string ⟨#[33,61]⟩,.string ⟨#[60]⟩,.string ⟨#[60,61]⟩,.string ⟨#[62]⟩,.string ⟨#[62,61]⟩,.string ⟨#[97,110,100]⟩,.string ⟨#[111,114]⟩]) (.int .i64 r)) w=.ok (.string (aM (sg fD r))) w:=by
 obtain rfl | rfl | rfl | rfl | rfl | rfl | rfl | rfl | rfl | rfl | rfl | rfl | rfl:r=0∨r=1∨r=2∨r=3∨r=4∨r=5∨r=6∨r=7∨r=8∨r=9∨r=10∨r=11∨r=12:=by omega
 all_goals kernel_rfl
theorem Zw {ay:Bool}{d N:Nat}{E:bB→j4}(hN:N≤900000)(hd:d≤100)(X:Hid (JC ay E (N+50000) (.int .i64 (d:Int))))(b:Nat)(T:¬ b < 75)(U:b < 150){g:Nat}{iv:Value}{w:World}{s:bB}{xs:List NV}{nv lv:Value}(H:Hid (dM g ay iv w s xs nv lv))(hn:s.ns.length≤N) :
  Calls Tryz.prog 174 #[.pointer (some ⟨g,0,none⟩),.int .i64 (b:Int),.int .i64 ((d:Int)+1)] w (kK g ay iv w xs nv (Ba ay E b s)):=by
 have M:=O (iK.refl (g:=g) (w:=w) (xs:=xs) (nv:=nv));have zd:IntKind.i64.wrap ((d:Int)+1 - 1)=(d:Int):=by rw [Int.add_sub_cancel];exact IntWalk.i64_in _ ⟨by omega,by omega⟩
 have a6:¬ (b:Int) < 75:=by omega
 obtain⟨k,A⟩:∃ k,k=b % 13:=⟨_,rfl⟩;have L:k < 13:=by omega
 have V:Int.tmod (b:Int) 13=(k:Int):=by rw [Int.tmod_eq_emod_of_nonneg (by omega),A];omega
 have D:=O (show Ba ay E b s=CW ay E b s by unfold Ba;rw [if_neg T]);have q:=O A.symm;have W:=Vg k L;have B:=Q6 k;obtain⟨c,C⟩:∃ c,Hid (sg fD k=c):=⟨_,O rfl⟩;rw [C.o] at W B
 have a7:(0:Int)≤(k:Int):=by omega
 have a8:(k:Int) < 13:=by omega
 have P:IntKind.u8.wrap (k:Int)=(k:Int):=IntWalk.u8_in _ (by omega);have zv:IntKind.u8.wrap (6+(k:Int))=((6+k:Nat):Int):=by rw [IntWalk.u8_in _ (by omega)];omega
 clear A;go_in
 go_wp2_with fail;refine (Gq H M X (by omega)).mono ?_;clear H M;rintro e w1⟨j,h,a3,gW,nX,rfl,l,r,XA,Z,Q,H,M,-⟩;go_wp2_with fail;refine (Gq H M X (by omega)).mono ?_;clear H M;rintro e w2⟨f,v,a4,Qu,Ap,rfl,m,I,K,a0,SG,H,M,-⟩;go_wp2_with fail;refine (vD H M).mono ?_;clear H M;rintro e w3⟨a,Mc,rfl,n,R,q3,H,M,-⟩;have x:¬ 9223372036854775807 < h.length+a.length:=by omega
 have y:¬ 9223372036854775807 < h.length+a.length+c.length:=by omega
 go_wp2_with fail;refine (vD H M).mono ?_;clear H M;rintro e w4⟨i,GU,rfl,J,S,q4,H,M,-⟩;clear x y;have c0:¬ 9223372036854775807 < h.length+a.length:=by omega
 have c1:¬ 9223372036854775807 < h.length+a.length+c.length:=by omega
 have c2:¬ 9223372036854775807 < h.length+a.length+c.length+i.length:=by omega
 have c3:¬ 9223372036854775807 < h.length+a.length+c.length+i.length+v.length:=by omega
 go_wp2_with fail;obtain⟨Y,u⟩:∃ Y:Bs,Hid (h ++ (a ++ (c ++ (i ++ v)))=Y):=⟨_,O rfl⟩;rw [show aM (h ++ (a ++ (c ++ (i ++ v))))=aM Y from by rw [← u.o] <;> (simp only [← ak];rfl)];have zR:Y.length≤10000000:=by rw [← u.o];simp only [aaO,List.length_cons,List.length_nil];omega
 refine (smH H M (t:=Y) (by omega)).mono ?_;clear H M;rintro e w5⟨S5,QB,rfl,vS,q5,H,M⟩;go_wp2_with fail;refine (SI H M [j.ix,f.ix] (by simp) (by omega)).mono ?_;clear H M;rintro e w6⟨a5,XB,rfl,H,M,-⟩;go_wp2_with fail;go_ret2
 have F:=O (show CW ay E b s=bJ (fG ay (j.pc ++ (a,opK k,c) :: bN.on i f.pc) (aO ay (aO ay (f.st)))) (fK ay (aO ay (aO ay (f.st)))) ⟨(6+k),[],0,[j.ix,f.ix],0⟩ from by
  unfold CW
  try simp only
  rw [l.o,m.o,n.o,J.o,q.o,C.o] <;> rfl)
 rw [D.o,F.o]
 refine⟨?_,_,_,_,H.o,M.o⟩
 show _=Ending.returned (.tuple #[.string (aM (aN (fG ay (j.pc ++ (a,opK k,c) :: bN.on i f.pc) (aO ay (aO ay (f.st)))))),.int .i64 (fK ay (aO ay (aO ay (f.st)))).id])
 have G:aN (j.pc ++ (a,opK k,c) :: bN.on i f.pc)=Y:=by
  simp only [aN,qZ,bR];rw [K.o,r.o,← u.o] <;> simp only [List.nil_append,List.append_nil,List.append_assoc,List.cons_append]
 rw [pO,G,vS.o];rfl
end Go.Proofs.YthepmkjggfijoaaGreatDoor
