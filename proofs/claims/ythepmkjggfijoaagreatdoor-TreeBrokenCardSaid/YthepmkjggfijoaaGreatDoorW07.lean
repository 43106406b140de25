/-
  A part of the proof.
-/
import Derived.Test.YthepmkjggfijoaaGreatDoorSA
import Derived.Test.YthepmkjggfijoaaGreatDoorW06
set_option linter.all false
set_option maxRecDepth 100000
set_option maxHeartbeats 4000000
namespace Go.Proofs.YthepmkjggfijoaaGreatDoor
open Go.RowKit Mist
attribute [local go_sem] aj aH aS aB ak
theorem GA (ay:Bool)(N:Nat)(hN:N≤700000)(m:Nat)(hm:m≤6)(g:Nat)(iv:Value)(w:World)(s:bC)(xs:List NV)(nv lv:Value)(h:dY g ay iv w s xs nv lv)(hn:s.ns.length≤N) :
  Calls Tryz.prog 115 #[.pointer (some ⟨g,0,none⟩),.int .i64 (m:Int)] w (J8 g ay iv w xs nv (bE ay m ⟨[],[],s⟩)):=by
 have C:=O h;have R:=O (iL.refl (g:=g) (w:=w) (xs:=xs) (nv:=nv));clear h;obtain⟨j0,b6,c0,c1,c2⟩:=info_parts gN;have b5:=C.o.lt;have b3:=O (vo ay);have b2:=O (show ∀ z,tl (bF ay 2 z).pc≤100∧(bF ay 2 z).st.ns.length≤z.ns.length+3 from fun z=>⟨Nat.le_trans (uX ay 2 z).1 (by omega),(uX ay 2 z).2⟩);have Xp:=O (jG.empty (w0:=w) C.o rfl (aaJ _));have HH:=O (C.o.alloc (.cells #[] 3));have MM:=O (R.o.dD (o:=.cells #[] 3));clear C R;go_in
 go_wp2_with fail;go_loopw [6,7,8] (fun sv l0 i wr=>∃ (k:Nat) (r:pz) (A:Option Addr) (c:Nat) (J:List NV) (gW oI:Value),k≤m∧i=.int .i64 k∧sv=.string (aM (aN r.pc))∧l0=.slice A r.ix.length c∧Hid (r.ix.length=k)∧(aN r.pc).length≤k * 200∧r.st.ns.length≤N+k * 10∧Hid (bE ay (m - k) r=bE ay m ⟨[],[],s⟩)∧Hid (jG w wr J (.slice A r.ix.length c) r.ix)∧Hid (dY g ay iv wr r.st J gW oI)∧Hid (iL g w xs nv wr J gW)) (fun _ _ i _=>m - (intOf i).toNat)
 case atStart=>exact⟨0,⟨[],[],s⟩,_,_,xs,nv,lv,aaL _,rfl,rfl,rfl,O rfl,by simp [aN],(by first|(simpa using hn)|(show s.tl.ns.length≤_;omega)),O rfl,Xp,HH,MM⟩
 case round =>
  clear Xp HH MM;obtain⟨wo,rfl⟩:∃ wo:World,wo=wr:=⟨_,rfl⟩;obtain⟨k,r,A,c,J,gW,e1,hk,rfl,rfl,rfl,B,b7,e4,HR,f,C,R⟩:=hrel;by_cases P:k < m
  ·obtain⟨mm,b8⟩:∃ mm,m - k=mm+1:=⟨m - k - 1,by omega⟩;have IV:m - (k+1)=mm:=by omega
   rw [b8] at HR
   have U1:=O IV;clear b8 IV;obtain⟨X,hX⟩:∃ X,X=aN r.pc:=⟨_,rfl⟩;rw [← hX] at b7 ⊢
   have b4:=O hX;clear hX;by_cases b1:k=0
   ·subst b1;have S:r.ix=[]:=List.eq_nil_of_length_eq_zero B.o;have K:=O (show bE ay (mm+1) r=bE ay mm ⟨r.pc ++ (([],1,bA r.st.nx) :: bP [58] :: bN.on (bG ay (bF ay 2 r.st.tl).st) (bF ay 2 r.st.tl).pc),r.ix ++ [(aX ay (bF ay 2 r.st.tl).st).id],(aX ay (bF ay 2 r.st.tl).st).put ⟨34,bA r.st.nx,0,[(bF ay 2 r.st.tl).ix],0⟩⟩ by rw [bE];simp only [if_pos S]);clear S;go_wp2_with fail;refine (bU g ay _ _ (r.st) _ _ _ C.o).mono ?_;rintro e w1⟨rfl,oI,h,m⟩;have U:=O h;have M1:=O (R.o.D7 m)
    replace f:=O (f.o.mv C.o m)
    clear h m C R;go_wp2_with fail;refine (fD (r.st).nx _).mono ?_;rintro e Us⟨rfl,rfl⟩;have ly:=iY (r.st).nx;obtain⟨y,hy⟩:∃ y,y=bA (r.st).nx:=⟨_,rfl⟩;rw [← hy] at ly K ⊢
    clear hy;have e0:(r.st).tl.ns.length=r.st.ns.length:=rfl;have D:=O fun u=>zV (qX ay 2 (r.st).tl) u
    go_wp2_with fail;refine (b3.o g _ _ ((r.st).tl) _ _ _ U.o (by first | omega|(simp only [aF];omega))).mono ?_;rintro e w2⟨rfl,e7,Qu,BX,h,m⟩;have Q:=O h;have M2:=O (M1.o.trans m)
    replace f:=O (f.o.mw U.o m)
    clear h m U M1;obtain⟨QW,U9⟩:=b2.o ((r.st).tl);obtain⟨j,b0⟩:∃ a,a=bF ay 2 ((r.st).tl):=⟨_,rfl⟩;rw [← b0] at Q QW U9 ⊢
    obtain⟨T2,IQ⟩:∃ T,T=aN j.pc:=⟨_,rfl⟩;have e5:T2.length≤100:=by rw [IQ];exact QW
    rw [← IQ];have c4:=O b0;have c8:=O IQ;clear b0 IQ QW
    (try simp only [aF] at U9)
    rw [← c4.o] at K D
    have a5:¬ 9223372036854775807 < X.length+y.length:=by omega
    have a6:¬ 9223372036854775807 < X.length+y.length+1:=by omega
    go_wp2_with fail;refine (dF g ay _ _ (j.st) _ _ _ Q.o).mono ?_;rintro e w3⟨rfl,OY,h,m⟩;have V:=O h;have M3:=O (M2.o.D7 m)
    replace f:=O (f.o.mv Q.o m)
    clear h m Q M2;have d6:=eU ay (j.st);obtain⟨G3,a8⟩:∃ G,G=bG ay (j.st):=⟨_,rfl⟩;rw [← a8] at d6 ⊢
    have c6:=O a8;clear a8;clear a5 a6;rw [← c6.o] at K
    have d0:¬ 9223372036854775807 < X.length+y.length:=by omega
    have d1:¬ 9223372036854775807 < X.length+y.length+1:=by omega
    have d2:¬ 9223372036854775807 < X.length+y.length+1+G3.length:=by omega
    have cb3:¬ 9223372036854775807 < X.length+y.length+1+G3.length+T2.length:=by omega
    have CG:=O (f.o.apart (n:=1) (c:=1) (aaJ _))
    replace f:=O (f.o.alloc (.cells (intCells [j.ix]).toArray 3))
    have Vm:=O (Mx w3 [j.ix]);have HK:=O (V.o.alloc (.cells (intCells [j.ix]).toArray 3));have Vo:=O (M3.o.dD (o:=.cells (intCells [j.ix]).toArray 3));have q:=M3.o.size;clear V M3;go_wp2_with fail;obtain⟨Y,L⟩:∃ Y:Bs,Y=X ++ y ++ [58] ++ G3 ++ T2:=⟨_,rfl⟩;rw [show aM (X ++ y) ++ (⟨#[58]⟩:ByteArray) ++ aM (G3) ++ aM (T2)=aM Y from by rw [L] <;> (simp only [← ak];rfl)];have BF:Y.length≤10000000:=by rw [L];simp only [aaO,List.length_cons,List.length_nil];omega
    have HY:=O L;clear L;refine (dH g ay _ _ (aX ay (j.st)) _ _ _ HK.o 34 y 0 _ [j.ix] Vm.o (by first | omega|(simp only [aF,bV];omega))).mono ?_;rintro e w4⟨rfl,yH,h,m⟩
    replace f:=O (f.o.put HK.o h m CG.o)
    have H4:=O h;have M4:=O (Vo.o.wB (x:=(⟨34,y,0,[j.ix],0⟩,(.slice (some ⟨w3.heap.size,0,none⟩) 1 1))) m (EM q));clear h m;have v:=O (f.o.alloc (.cells #[.int .i64 (bC.id (aX ay (j.st)))] 3));have HA:=O (H4.o.alloc (.cells #[.int .i64 (bC.id (aX ay (j.st)))] 3));have MA:=O (M4.o.dD (o:=(.cells #[.int .i64 (bC.id (aX ay (j.st)))] 3)));have q:=MA.o.size;have d8:r.ix.length≤6:=by have:=B.o;omega
    go_wp2_with (at_builtin;go_loud (refine wpList_append_lies _ rfl (.tmp 42) (.tmp 49) 24 rfl 0 3 j0 (.int .i64 0) 1 8 Tryz.underlying24 b6 c0 c1 c2 rfl (by decide) _ r.ix.length (intCells r.ix) rfl v.o.row ⟨w4.heap.size,0,none⟩ 1 1 [.int .i64 (bC.id (aX ay (j.st)))] rfl rfl (cell_one_new _ _ _) (by simp [Value.oneCell']) (by omega) (by simp only [maxLen];omega) (by omega) (aaL _) _ rfl ?_);intro Kw CK Tx t d I P;have a0:=O (v.o.grow HA.o t I q);have W:=O (HA.o.grow v.o d (fun b hb=>aaK (aaW b5 (v.o.lo b hb))));have a1:=O (MA.o.grow v.o d);clear t d I P)
    clear v HA MA q f H4 M4;have F:=O (show Y=aN (r.pc ++ (([],1,y) :: bP [58] :: bN.on G3 j.pc)) by rw [qZ,HY.o,← b4.o];simp only [aN,bP];rw [D.o,c8.o];simp only [List.nil_append,List.append_nil,List.append_assoc,List.cons_append]);exact⟨⟨0+1,⟨r.pc ++ (([],1,y) :: bP [58] :: bN.on G3 j.pc),r.ix ++ [bC.id (aX ay (j.st))],(aX ay (j.st)).put ⟨34,y,0,[j.ix],0⟩⟩,_,_,_,_,_,by omega,by go_num,congrArg Value.string (congrArg aM F.o),by rw [aaO];rfl,O (by rw [aaO,B.o];rfl),by rw [← F.o,HY.o];simp only [aaO,List.length_cons,List.length_nil];omega,by show (bC.put _ _).ns.length≤_;rw [kZ,aF];omega,O (by show bE ay (m - (0+1)) _=_;rw [U1.o,← K.o,HR.o]),by rw [aaO];exact a0,W,a1⟩,by simp [intOf];omega⟩
   ·have b9:r.ix ≠ []:=fun h=>b1 (by rw [← B.o,h];rfl)
    have K:=O (show bE ay (mm+1) r=bE ay mm ⟨r.pc ++ (bP [44] :: (bG ay r.st,1,bA (aX ay r.st).nx) :: bP [58] :: bN.on (bG ay (bF ay 2 (aX ay r.st).tl).st) (bF ay 2 (aX ay r.st).tl).pc),r.ix ++ [(aX ay (bF ay 2 (aX ay r.st).tl).st).id],(aX ay (bF ay 2 (aX ay r.st).tl).st).put ⟨34,bA (aX ay r.st).nx,0,[(bF ay 2 (aX ay r.st).tl).ix],0⟩⟩ by rw [bE];simp only [if_neg b9]);have e2:(0:Int) < (k:Int):=by omega
    clear b9 b1;go_wp2_with fail;refine (dF g ay _ _ (r.st) _ _ _ C.o).mono ?_;rintro e w1⟨rfl,oI,h,m⟩;have U:=O h;have M1:=O (R.o.D7 m)
    replace f:=O (f.o.mv C.o m)
    clear h m C R;have d5:=eU ay (r.st);obtain⟨G1,a7⟩:∃ G,G=bG ay (r.st):=⟨_,rfl⟩;rw [← a7] at d5 ⊢
    have c5:=O a7;clear a7;rw [← c5.o] at K
    have d3:¬ 9223372036854775807 < 1+G1.length:=by omega
    have d4:¬ 9223372036854775807 < X.length+(1+G1.length):=by omega
    go_wp2_with fail;obtain⟨Z,hZ⟩:∃ Z:Bs,Z=X ++ ([44] ++ G1):=⟨_,rfl⟩;rw [show (aM X ++ ((⟨#[44]⟩:ByteArray) ++ aM G1))=aM Z from by rw [hZ,← ak,← ak];rfl];have e3:Z.length≤X.length+9:=by rw [hZ];simp only [aaO,List.length_cons,List.length_nil];omega
    have HZ:=O hZ;clear hZ d3 d4;refine (bU g ay _ _ (aX ay (r.st)) _ _ _ U.o).mono ?_;rintro e w2⟨rfl,BX,h,m⟩;have Q:=O h;have M2:=O (M1.o.D7 m)
    replace f:=O (f.o.mv U.o m)
    clear h m U M1;go_wp2_with fail;refine (fD ((aX ay r.st)).nx _).mono ?_;rintro e Us⟨rfl,rfl⟩;have ly:=iY ((aX ay r.st)).nx;obtain⟨y,hy⟩:∃ y,y=bA ((aX ay r.st)).nx:=⟨_,rfl⟩;rw [← hy] at ly K ⊢
    clear hy;have e0:((aX ay r.st)).tl.ns.length=r.st.ns.length:=by show (aX ay r.st).ns.length=_;rw [aF]
    have D:=O fun u=>zV (qX ay 2 ((aX ay r.st)).tl) u
    go_wp2_with fail;refine (b3.o g _ _ ((aX ay (r.st)).tl) _ _ _ Q.o (by first | omega|(simp only [aF];omega))).mono ?_;rintro e w3⟨rfl,Xj,FM,OY,h,m⟩;have V:=O h;have M3:=O (M2.o.trans m)
    replace f:=O (f.o.mw Q.o m)
    clear h m Q M2;obtain⟨a4,VW⟩:=b2.o ((aX ay (r.st)).tl);obtain⟨l,FK⟩:∃ a,a=bF ay 2 ((aX ay (r.st)).tl):=⟨_,rfl⟩;rw [← FK] at V a4 VW ⊢
    obtain⟨T3,Wd⟩:∃ T,T=aN l.pc:=⟨_,rfl⟩;have e6:T3.length≤100:=by rw [Wd];exact a4
    rw [← Wd];have gM:=O FK;have c9:=O Wd;clear FK Wd a4
    (try simp only [aF] at VW)
    rw [← gM.o] at K D
    have a5:¬ 9223372036854775807 < Z.length+y.length:=by omega
    have a6:¬ 9223372036854775807 < Z.length+y.length+1:=by omega
    go_wp2_with fail;refine (dF g ay _ _ (l.st) _ _ _ V.o).mono ?_;rintro e w4⟨rfl,KF,h,m⟩;have H4:=O h;have M4:=O (M3.o.D7 m)
    replace f:=O (f.o.mv V.o m)
    clear h m V M3;have d7:=eU ay (l.st);obtain⟨G4,a9⟩:∃ G,G=bG ay (l.st):=⟨_,rfl⟩;rw [← a9] at d7 ⊢
    have Jf:=O a9;clear a9;clear a5 a6;rw [← Jf.o] at K
    have d0:¬ 9223372036854775807 < Z.length+y.length:=by omega
    have d1:¬ 9223372036854775807 < Z.length+y.length+1:=by omega
    have d2:¬ 9223372036854775807 < Z.length+y.length+1+G4.length:=by omega
    have cb3:¬ 9223372036854775807 < Z.length+y.length+1+G4.length+T3.length:=by omega
    have CG:=O (f.o.apart (n:=1) (c:=1) (aaJ _))
    replace f:=O (f.o.alloc (.cells (intCells [l.ix]).toArray 3))
    have Vm:=O (Mx w4 [l.ix]);have HK:=O (H4.o.alloc (.cells (intCells [l.ix]).toArray 3));have Vo:=O (M4.o.dD (o:=.cells (intCells [l.ix]).toArray 3));have q:=M4.o.size;clear H4 M4;go_wp2_with fail;obtain⟨Y,L⟩:∃ Y:Bs,Y=Z ++ y ++ [58] ++ G4 ++ T3:=⟨_,rfl⟩;rw [show aM (Z ++ y) ++ (⟨#[58]⟩:ByteArray) ++ aM (G4) ++ aM (T3)=aM Y from by rw [L] <;> (simp only [← ak];rfl)];have BF:Y.length≤10000000:=by rw [L];simp only [aaO,List.length_cons,List.length_nil];omega
    have HY:=O L;clear L;refine (dH g ay _ _ (aX ay (l.st)) _ _ _ HK.o 34 y 0 _ [l.ix] Vm.o (by first | omega|(simp only [aF,bV];omega))).mono ?_;rintro e w5⟨rfl,Fu,h,m⟩
    replace f:=O (f.o.put HK.o h m CG.o)
    have H5:=O h;have M5:=O (Vo.o.wB (x:=(⟨34,y,0,[l.ix],0⟩,(.slice (some ⟨w4.heap.size,0,none⟩) 1 1))) m (EM q));clear h m;have v:=O (f.o.alloc (.cells #[.int .i64 (bC.id (aX ay (l.st)))] 3));have HA:=O (H5.o.alloc (.cells #[.int .i64 (bC.id (aX ay (l.st)))] 3));have MA:=O (M5.o.dD (o:=(.cells #[.int .i64 (bC.id (aX ay (l.st)))] 3)));have q:=MA.o.size;have d8:r.ix.length≤6:=by have:=B.o;omega
    go_wp2_with (at_builtin;go_loud (refine wpList_append_lies _ rfl (.tmp 42) (.tmp 49) 24 rfl 0 3 j0 (.int .i64 0) 1 8 Tryz.underlying24 b6 c0 c1 c2 rfl (by decide) _ r.ix.length (intCells r.ix) rfl v.o.row ⟨w5.heap.size,0,none⟩ 1 1 [.int .i64 (bC.id (aX ay (l.st)))] rfl rfl (cell_one_new _ _ _) (by simp [Value.oneCell']) (by omega) (by simp only [maxLen];omega) (by omega) (aaL _) _ rfl ?_);intro Kw CK Tx t d I P;have a0:=O (v.o.grow HA.o t I q);have W:=O (HA.o.grow v.o d (fun b hb=>aaK (aaW b5 (v.o.lo b hb))));have a1:=O (MA.o.grow v.o d);clear t d I P)
    clear v HA MA q f H5 M5;have F:=O (show Y=aN (r.pc ++ (bP [44] :: (G1,1,y) :: bP [58] :: bN.on G4 l.pc)) by rw [qZ,HY.o,HZ.o,← b4.o];simp only [aN,bP];rw [D.o,c9.o];simp only [List.nil_append,List.append_nil,List.append_assoc,List.cons_append]);exact⟨⟨k+1,⟨r.pc ++ (bP [44] :: (G1,1,y) :: bP [58] :: bN.on G4 l.pc),r.ix ++ [bC.id (aX ay (l.st))],(aX ay (l.st)).put ⟨34,y,0,[l.ix],0⟩⟩,_,_,_,_,_,by omega,by go_num,congrArg Value.string (congrArg aM F.o),by rw [aaO];rfl,O (by rw [aaO,B.o];rfl),by rw [← F.o,HY.o];simp only [aaO,List.length_cons,List.length_nil];omega,by show (bC.put _ _).ns.length≤_;rw [kZ,aF];omega,O (by show bE ay (m - (k+1)) _=_;rw [U1.o,← K.o,HR.o]),by rw [aaO];exact a0,W,a1⟩,by simp [intOf];omega⟩
  ·obtain rfl:k=m:=by omega
   have c7:=O (show bE ay k ⟨[],[],s⟩=r by rw [← HR.o,Nat.sub_self];rfl);clear HR;go_wp2_with fail;go_ret2
   rw [c7.o];exact⟨A,c,J,gW,e1,rfl,f.o,C.o,R.o⟩
theorem Gz (ay:Bool)(n:Int)(k:-1000≤n)(l:n≤1000)(g:Nat)(iv:Value)(w:World)(s:bC)(xs:List NV)(nv lv:Value)(h:dY g ay iv w s xs nv lv)(r:s.ns.length≤900000) :
  Calls Tryz.prog 112 #[.pointer (some ⟨g,0,none⟩),.int .i64 n] w (lg g ay iv w xs nv (bX n s)):=by
 have b:=O h;have c:=O (iL.refl (g:=g) (w:=w) (xs:=xs) (nv:=nv));clear h;go_in
 go_wp2_with fail;refine (vw (n) (by omega) (by omega) g ay _ _ (s) _ _ _ b.o).mono ?_;rintro e t⟨rfl,a⟩;have d:=O (b.o.below a);have i:=O (c.o.aL a);clear a b c;go_wp2_with fail;refine (dH g ay _ _ (s) _ _ _ d.o 1 [] n _ [] (cB.none_ _) (by first | omega|(simp only [aF,bV];omega))).mono ?_;rintro e u⟨rfl,q,h,m⟩;have f:=O h;have j:=O (i.o.wB (x:=(⟨1,[],n,[],0⟩,(.slice none 0 0))) m pQ);clear h m;go_wp2_with fail;go_ret2
 refine⟨?_,_,_,_,f.o,j.o⟩
 show _=Ending.returned (.tuple #[.string (aM (aN (fI n))),.int .i64 (s).id])
 rw [CV];rfl
def Kp (w:World)(xs:List NV)(w':World)(xs':List NV):Prop:=∀ (w1:World) (v:Value) (ks:List Int),jG w1 w xs v ks→jG w1 w' xs' v ks
theorem kp {w b w1:World}{xs a:List NV}{v:Value}{ks:List Int}(R:Hid (Kp w xs b a))(L:Hid (jG w1 w xs v ks)):Hid (jG w1 b a v ks):=O (R.o _ _ _ L.o)
theorem on_ne {I:bN}(h:I ≠ [])(g:Bs):aN (bN.on g I)=g ++ aN I:=by
 cases I with
 | nil=>exact absurd rfl h
 | cons x I =>
  obtain⟨a,k,t⟩:=x
  show (g ++ a) ++ (t ++ aN I)=g ++ (a ++ (t ++ aN I))
  rw [List.append_assoc]
theorem num_ne (n:Int):fI n ≠ []:=by unfold fI;split <;> simp
structure Mk (ay:Bool) (E:bC→kJ) (N:Nat) (dv:Value):Prop where
 o:∀ (g:Nat) (iv:Value) (w:World) (s:bC) (xs:List NV) (nv lv:Value),dY g ay iv w s xs nv lv→s.ns.length≤N →
  Calls Tryz.prog 117 #[.pointer (some ⟨g,0,none⟩),dv] w (lg g ay iv w xs nv (E s))
 bd:abL E 100000 10000
 good:∀ s,Ap (E s).pc
def LsC (ay:Bool)(E:bC→kJ)(N:Nat)(dv:Value):Prop:=∀ (m:Nat),m≤4→∀ (g:Nat) (iv:Value) (w:World) (s:bC) (xs:List NV) (nv lv:Value),dY g ay iv w s xs nv lv→s.ns.length≤N →
 Calls Tryz.prog 176 #[.pointer (some ⟨g,0,none⟩),.int .i64 (m:Int),dv] w (J8 g ay iv w xs nv (bK ay E m ⟨[],[],s⟩))
theorem F8 {E:bC→kJ}{L C b a:Nat}(h:abL E L C)(h1:L≤b)(h2:C≤a):abL E b a:=⟨fun s=>Nat.le_trans (h.text s) h1,fun s=>Nat.le_trans (h.nodes s) (Nat.add_le_add_left h2 _)⟩
theorem WB (ay:Bool){E:bC→kJ}{L C:Nat}(h:abL E L C)(m:Nat)(a:m≤4)(s:bC):tl (bK ay E m ⟨[],[],s⟩).pc≤4 * (L+9)∧(bK ay E m ⟨[],[],s⟩).st.ns.length≤s.ns.length+4 * C∧(bK ay E m ⟨[],[],s⟩).ix.length=m:=by
 obtain⟨h1,h2,h3⟩:=wG ay h m ⟨[],[],s⟩;have b:m * (L+9)≤4 * (L+9):=Nat.mul_le_mul_right _ a;have c:m * C≤4 * C:=Nat.mul_le_mul_right _ a;rw [fu] at h1
 have h2:(bK ay E m ⟨[],[],s⟩).st.ns.length≤s.ns.length+m * C:=h2;have h3:(bK ay E m ⟨[],[],s⟩).ix.length=0+m:=h3;exact⟨by omega,by omega,by omega⟩
section
variable {g N:Nat} {ay:Bool} {iv Gq nv lv dv:Value} {w0 w:World} {s:bC} {GN xs:List NV} {E:bC→kJ} (H:Hid (dY g ay iv w s xs nv lv)) (M:Hid (iL g w0 GN Gq w xs nv))
include H M
theorem zS:Calls Tryz.prog 110 #[.pointer (some ⟨g,0,none⟩)] w fun e a=>∃ b,e=.returned (.int .i64 s.nx)∧s.tl.ns.length=s.ns.length∧Hid (dY g ay iv a s.tl xs nv b)∧Hid (iL g w0 GN Gq a xs nv)∧Hid (Kp w xs a xs):=by
 refine (bU g ay iv _ s _ _ _ H.o).mono ?_;rintro e a ⟨rfl,b,h,m⟩;exact⟨b,rfl,rfl,O h,O (M.o.D7 m),O fun d v c L=>L.mv H.o m⟩
theorem wP:Calls Tryz.prog 113 #[.pointer (some ⟨g,0,none⟩)] w fun e a=>∃ G b,e=.returned (.string (aM G))∧Hid (bG ay s=G)∧G.length≤8∧(aX ay s).ns.length=s.ns.length∧Hid (dY g ay iv a (aX ay s) xs nv b)∧Hid (iL g w0 GN Gq a xs nv)∧Hid (Kp w xs a xs):=by
 refine (dF g ay iv _ s _ _ _ H.o).mono ?_;rintro e a ⟨rfl,b,h,m⟩;exact⟨_,b,rfl,O rfl,eU ay s,by rw [aF],O h,O (M.o.D7 m),O fun d v c L=>L.mv H.o m⟩
theorem smH {t:Bs}(c:t.length≤10000000):Calls Tryz.prog 195 #[.pointer (some ⟨g,0,none⟩),.string (aM t)] w fun e b=>∃ S a,e=.returned (.string (aM S))∧Hid (xU ay t s=S)∧(gX ay s).ns.length=s.ns.length∧Hid (dY g ay iv b (gX ay s) xs nv a)∧Hid (iL g w0 GN Gq b xs nv):=by
 refine (K3 g ay iv _ s _ _ _ H.o t (by omega)).mono ?_;rintro e b ⟨rfl,a,h,m⟩;exact⟨_,a,rfl,O rfl,by rw [bV],O h,O (M.o.D7 m)⟩
theorem J2 (X:Hid (Mk ay E N dv))(f:s.ns.length≤N):Calls Tryz.prog 117 #[.pointer (some ⟨g,0,none⟩),dv] w fun e c=>∃ a T b eO d,e=.returned (.tuple #[.string (aM T),.int .i64 a.ix])∧Hid (E s=a)∧Hid (aN a.pc=T)∧Hid (∀ u,aN (bN.on u a.pc)=u ++ T)∧T.length≤100000∧a.st.ns.length≤s.ns.length+10000∧Hid (dY g ay iv c a.st b eO d)∧Hid (iL g w0 GN Gq c b eO)∧Hid (Kp w xs c b):=by
 refine (X.o.o g iv _ s _ _ _ H.o f).mono ?_;rintro e c ⟨rfl,b,eO,d,h,m⟩;exact⟨_,_,b,eO,d,rfl,O rfl,O rfl,O (zV (X.o.good s)),X.o.bd.text s,X.o.bd.nodes s,O h,O (M.o.trans m),O fun j v i L=>L.mw H.o m⟩
theorem lsH (X:Hid (Mk ay E N dv)){j:Nat}{d:Value}(q:Hid (LsC ay E j d)){m:Nat}(n:m≤4)(C:s.ns.length≤j):Calls Tryz.prog 176 #[.pointer (some ⟨g,0,none⟩),.int .i64 (m:Int),d] w fun e f=>∃ r T A c a eO i,e=.returned (.tuple #[.string (aM T),.slice A r.ix.length c])∧Hid (bK ay E m ⟨[],[],s⟩=r)∧Hid (aN r.pc=T)∧Hid (m ≠ 0→∀ u,aN (bN.on u r.pc)=u ++ T)∧Hid (m=0→r.pc=[])∧T.length≤500000∧r.st.ns.length≤s.ns.length+40000∧Hid (jG w0 f a (.slice A r.ix.length c) r.ix)∧Hid (dY g ay iv f r.st a eO i)∧Hid (iL g w0 GN Gq f a eO)∧Hid (Kp w xs f a):=by
 refine (q.o m n g iv _ s _ _ _ H.o C).mono ?_;rintro e f ⟨A,c,a,eO,i,rfl,l,h,k⟩;obtain⟨t,D,x⟩:=WB ay X.o.bd m n s;have B:=oh ay X.o.good m ⟨[],[],s⟩ (li0 _);exact⟨_,_,A,c,a,eO,i,rfl,O rfl,O rfl,O fun h0=>zV (B.2 fun h=>h0 (by rw [← x,h];rfl)),O fun h0=>by rw [h0];rfl,Nat.le_trans t (by omega),by omega,O ⟨l.row,fun b y=>Nat.le_trans M.o.size (l.lo b y),l.far⟩,O h,O (M.o.trans k),O fun G v F L=>L.mw H.o k⟩
theorem Vb {K:Nat}{x:Bs}{n:Int}(ks:List Int)(d:ks.length≤1000)(f:s.ns.length≤1000000):Calls Tryz.prog 114 #[.pointer (some ⟨g,0,none⟩),.agg #[.int .u8 K,.string (aM x),.int .i64 n,.slice (some ⟨w.heap.size,0,none⟩) ks.length ks.length,.int .i64 0]] (w.alloc (.cells (intCells ks).toArray 3)) fun e b=>∃ a eO,e=.returned (.int .i64 s.id)∧Hid (dY g ay iv b (s.put ⟨K,x,n,ks,0⟩) a eO lv)∧Hid (iL g w0 GN Gq b a eO)∧Hid (Kp w xs b a):=by
 have c:=H.o.alloc (.cells (intCells ks).toArray 3);refine (dH g ay iv _ s _ _ _ c K x n _ ks (Mx w ks d) f).mono ?_;rintro e b ⟨rfl,eO,h,m⟩;exact⟨_,eO,rfl,O h,O (M.o.dD.wB m (EM M.o.size)),O fun j v i L=>(L.alloc _).put c h m (L.apart (aaJ _))⟩
theorem ptN {K:Nat}{x:Bs}{n:Int}(c:s.ns.length≤1000000):Calls Tryz.prog 114 #[.pointer (some ⟨g,0,none⟩),.agg #[.int .u8 K,.string (aM x),.int .i64 n,.slice none 0 0,.int .i64 0]] w fun e b=>∃ a eO,e=.returned (.int .i64 s.id)∧Hid (dY g ay iv b (s.put ⟨K,x,n,[],0⟩) a eO lv)∧Hid (iL g w0 GN Gq b a eO)∧Hid (Kp w xs b a):=by
 refine (dH g ay iv _ s _ _ _ H.o K x n _ [] (cB.none_ _) c).mono ?_;rintro e b ⟨rfl,eO,h,m⟩;exact⟨_,eO,rfl,O h,O (M.o.wB m pQ),O fun f v d L=>L.put H.o h m (.inl rfl)⟩
theorem Zw {K:Nat}{x:Bs}{n:Int}{A:Option Addr}{c k:Nat}{ks:List Int}(L:Hid (jG w0 w xs (.slice A k c) ks))(f:s.ns.length≤1000000):Calls Tryz.prog 114 #[.pointer (some ⟨g,0,none⟩),.agg #[.int .u8 K,.string (aM x),.int .i64 n,.slice A k c,.int .i64 0]] w fun e d=>∃ a eO,e=.returned (.int .i64 s.id)∧Hid (dY g ay iv d (s.put ⟨K,x,n,ks,0⟩) a eO lv)∧Hid (iL g w0 GN Gq d a eO)∧Hid (∀ (w1:World) (v:Value) (js:List Int),(∀ b,v.ownBlock=some b→b < w0.heap.size)→jG w1 w xs v js→jG w1 d a v js):=by
 refine (dH g ay iv _ s _ _ _ H.o K x n _ ks L.o.row f).mono ?_;rintro e d ⟨rfl,eO,h,m⟩
 refine⟨_,eO,rfl,O h,O (M.o.wB m L.o.lo),O fun w1 v js hv Q=>Q.put H.o h m ?_⟩
 rcases h9:(Value.slice A k c).ownBlock with _ | b
 ·exact .inl rfl
 ·right
  intro e;have h1:=L.o.lo b h9;have h2:=hv b e.symm;omega
theorem itH {n:Int}(h0:-1000000≤n)(h1:n≤1000000):Calls Tryz.prog 77 #[.int .i64 n] w fun e a=>∃ U,e=.returned (.string (aM U))∧Hid (Go.Lib.itoa n=U)∧Hid (dY g ay iv a s xs nv lv)∧Hid (iL g w0 GN Gq a xs nv)∧Hid (Kp w xs a xs):=by
 refine (vw n h0 h1 g ay iv _ s _ _ _ H.o).mono ?_;rintro e a ⟨rfl,b⟩;exact⟨_,rfl,O rfl,O (H.o.below b),O (M.o.aL b),O fun d v c L=>L.below b⟩
end
theorem Qe (b:Nat)(w:World):Calls Tryz.prog 111 #[.int .i64 (b:Int)] w fun e a=>∃ x,e=.returned (.string (aM x))∧Hid (bA b=x)∧x.length≤4∧a=w:=by
 refine (fD b w).mono ?_;rintro e a ⟨rfl,rfl⟩;exact⟨_,rfl,O rfl,iY b,rfl⟩
theorem pl_not {ay:Bool}{d N:Nat}{E:bC→kJ}(S:N≤900000)(hd:d≤100)(X:Hid (Mk ay E (N+50000) (.int .i64 (d:Int))))(b:Nat)(A:b < 75)(m:b % 2=0){g:Nat}{iv:Value}{w:World}{s:bC}{xs:List NV}{nv lv:Value}(H:Hid (dY g ay iv w s xs nv lv))(T:s.ns.length≤N) :
  Calls Tryz.prog 174 #[.pointer (some ⟨g,0,none⟩),.int .i64 (b:Int),.int .i64 ((d:Int)+1)] w (lg g ay iv w xs nv (CW ay E b s)):=by
 have M:=O (iL.refl (g:=g) (w:=w) (xs:=xs) (nv:=nv));have zd:IntKind.i64.wrap ((d:Int)+1 - 1)=(d:Int):=by rw [Int.add_sub_cancel];exact IntWalk.i64_in _ ⟨by omega,by omega⟩
 have G:(b:Int) < 75:=by omega
 have B:Int.tmod (b:Int) 2=0:=by rw [Int.tmod_eq_emod_of_nonneg (by omega)];omega
 have n:=O (show CW ay E b s=BN ay E b s by unfold CW;rw [if_pos A]);have l:=O m;clear m;go_in
 go_wp2_with fail;refine (J2 H M X (by omega)).mono ?_;clear H M;rintro e Z⟨a,j,D,R,U,rfl,f,u,k,C,x,H,M,-⟩;go_wp2_with fail;refine (wP H M).mono ?_;clear H M;rintro e w2⟨c,J,rfl,h,y,V,H,M,-⟩;have P:¬ 9223372036854775807 < 3+c.length:=by omega
 have Q:¬ 9223372036854775807 < 3+c.length+j.length:=by omega
 go_wp2_with fail;obtain⟨Y,i⟩:∃ Y:Bs,Hid ([110,111,116] ++ c ++ j=Y):=⟨_,O rfl⟩;rw [show (⟨#[110,111,116]⟩:ByteArray) ++ aM (c) ++ aM (j)=aM Y from by rw [← i.o] <;> (simp only [← ak];rfl)];have I:Y.length≤10000000:=by rw [← i.o];simp only [aaO,List.length_cons,List.length_nil];omega
 refine (smH H M (t:=Y) (by omega)).mono ?_;clear H M;rintro e w3⟨L,K,rfl,v,W,H,M⟩;go_wp2_with fail;refine (Vb H M [a.ix] (by simp) (by omega)).mono ?_;clear H M;rintro e w4⟨F,yH,rfl,H,M,-⟩;go_wp2_with fail;go_ret2
 have q:=O (show BN ay E b s=bH (fK ay (([],3,[110,111,116]) :: bN.on c a.pc) (aX ay (a.st))) (gX ay (aX ay (a.st))) ⟨5,[],0,[a.ix],0⟩ from by
  unfold BN
  try simp only
  rw [f.o,h.o,if_pos l.o,if_pos l.o] <;> rfl)
 rw [n.o,q.o]
 refine⟨?_,_,_,_,H.o,M.o⟩
 show _=Ending.returned (.tuple #[.string (aM (aN (fK ay (([],3,[110,111,116]) :: bN.on c a.pc) (aX ay (a.st))))),.int .i64 (gX ay (aX ay (a.st))).id])
 have r:aN (([],3,[110,111,116]) :: bN.on c a.pc)=Y:=by
  simp only [aN,qZ,bP];rw [k.o,← i.o] <;> simp only [List.nil_append,List.append_nil,List.append_assoc,List.cons_append]
 rw [qU,r,v.o];rfl
theorem pl_neg {ay:Bool}{d N:Nat}{E:bC→kJ}(S:N≤900000)(hd:d≤100)(X:Hid (Mk ay E (N+50000) (.int .i64 (d:Int))))(b:Nat)(A:b < 75)(m:¬ b % 2=0){g:Nat}{iv:Value}{w:World}{s:bC}{xs:List NV}{nv lv:Value}(H:Hid (dY g ay iv w s xs nv lv))(T:s.ns.length≤N) :
  Calls Tryz.prog 174 #[.pointer (some ⟨g,0,none⟩),.int .i64 (b:Int),.int .i64 ((d:Int)+1)] w (lg g ay iv w xs nv (CW ay E b s)):=by
 have M:=O (iL.refl (g:=g) (w:=w) (xs:=xs) (nv:=nv));have zd:IntKind.i64.wrap ((d:Int)+1 - 1)=(d:Int):=by rw [Int.add_sub_cancel];exact IntWalk.i64_in _ ⟨by omega,by omega⟩
 have G:(b:Int) < 75:=by omega
 have B:Int.tmod (b:Int) 2=1:=by rw [Int.tmod_eq_emod_of_nonneg (by omega)];omega
 have n:=O (show CW ay E b s=BN ay E b s by unfold CW;rw [if_pos A]);have l:=O m;clear m;go_in
 go_wp2_with fail;refine (J2 H M X (by omega)).mono ?_;clear H M;rintro e Z⟨a,j,D,R,U,rfl,f,u,k,C,x,H,M,-⟩;go_wp2_with fail;refine (wP H M).mono ?_;clear H M;rintro e w2⟨c,J,rfl,h,y,V,H,M,-⟩;have P:¬ 9223372036854775807 < 1+c.length:=by omega
 have Q:¬ 9223372036854775807 < 1+c.length+j.length:=by omega
 go_wp2_with fail;obtain⟨Y,i⟩:∃ Y:Bs,Hid ([45] ++ c ++ j=Y):=⟨_,O rfl⟩;rw [show (⟨#[45]⟩:ByteArray) ++ aM (c) ++ aM (j)=aM Y from by rw [← i.o] <;> (simp only [← ak];rfl)];have I:Y.length≤10000000:=by rw [← i.o];simp only [aaO,List.length_cons,List.length_nil];omega
 refine (smH H M (t:=Y) (by omega)).mono ?_;clear H M;rintro e w3⟨L,K,rfl,v,W,H,M⟩;go_wp2_with fail;refine (Vb H M [a.ix] (by simp) (by omega)).mono ?_;clear H M;rintro e w4⟨F,yH,rfl,H,M,-⟩;go_wp2_with fail;go_ret2
 have q:=O (show BN ay E b s=bH (fK ay (bP [45] :: bN.on c a.pc) (aX ay (a.st))) (gX ay (aX ay (a.st))) ⟨4,[],0,[a.ix],0⟩ from by
  unfold BN
  try simp only
  rw [f.o,h.o,if_neg l.o,if_neg l.o] <;> rfl)
 rw [n.o,q.o]
 refine⟨?_,_,_,_,H.o,M.o⟩
 show _=Ending.returned (.tuple #[.string (aM (aN (fK ay (bP [45] :: bN.on c a.pc) (aX ay (a.st))))),.int .i64 (gX ay (aX ay (a.st))).id])
 have r:aN (bP [45] :: bN.on c a.pc)=Y:=by
  simp only [aN,qZ,bP];rw [k.o,← i.o] <;> simp only [List.nil_append,List.append_nil,List.append_assoc,List.cons_append]
 rw [qU,r,v.o];rfl
theorem XR (r:Nat)(h:r < 13)(w:World):Sem.run Tryz.prog (Instr.index 92 (.agg #[.string ⟨#[43]⟩,.string ⟨#[45]⟩,.string ⟨#[42]⟩,.string ⟨#[47]⟩,.string ⟨#[37]⟩,.string ⟨#[61,61]⟩,.string ⟨#[33,61]⟩,.string ⟨#[60]⟩,.string ⟨#[60,61]⟩,.string ⟨#[62]⟩,.string ⟨#[62,61]⟩,.string ⟨#[97,110,100]⟩,.string ⟨#[111,114]⟩]) (.int .i64 r)) w=.ok (.string (aM (sg gL r))) w:=by
 obtain rfl | rfl | rfl | rfl | rfl | rfl | rfl | rfl | rfl | rfl | rfl | rfl | rfl:r=0∨r=1∨r=2∨r=3∨r=4∨r=5∨r=6∨r=7∨r=8∨r=9∨r=10∨r=11∨r=12:=by omega
 all_goals kernel_rfl
theorem pl_bin {ay:Bool}{d N:Nat}{E:bC→kJ}(hN:N≤900000)(hd:d≤100)(X:Hid (Mk ay E (N+50000) (.int .i64 (d:Int))))(b:Nat)(U:¬ b < 75)(V:b < 150){g:Nat}{iv:Value}{w:World}{s:bC}{xs:List NV}{nv lv:Value}(H:Hid (dY g ay iv w s xs nv lv))(hn:s.ns.length≤N) :
  Calls Tryz.prog 174 #[.pointer (some ⟨g,0,none⟩),.int .i64 (b:Int),.int .i64 ((d:Int)+1)] w (lg g ay iv w xs nv (CW ay E b s)):=by
 have M:=O (iL.refl (g:=g) (w:=w) (xs:=xs) (nv:=nv));have zd:IntKind.i64.wrap ((d:Int)+1 - 1)=(d:Int):=by rw [Int.add_sub_cancel];exact IntWalk.i64_in _ ⟨by omega,by omega⟩
 have a6:¬ (b:Int) < 75:=by omega
 obtain⟨k,A⟩:∃ k,k=b % 13:=⟨_,rfl⟩;have L:k < 13:=by omega
 have W:Int.tmod (b:Int) 13=(k:Int):=by rw [Int.tmod_eq_emod_of_nonneg (by omega),A];omega
 have D:=O (show CW ay E b s=Ga ay E b s by unfold CW;rw [if_neg U]);have q:=O A.symm;have vT:=XR k L;have B:=SS k;obtain⟨c,C⟩:∃ c,Hid (sg gL k=c):=⟨_,O rfl⟩;rw [C.o] at vT B
 have a7:(0:Int)≤(k:Int):=by omega
 have a8:(k:Int) < 13:=by omega
 have P:IntKind.u8.wrap (k:Int)=(k:Int):=IntWalk.u8_in _ (by omega);have zv:IntKind.u8.wrap (6+(k:Int))=((6+k:Nat):Int):=by rw [IntWalk.u8_in _ (by omega)];omega
 clear A;go_in
 go_wp2_with fail;refine (J2 H M X (by omega)).mono ?_;clear H M;rintro e w1⟨j,h,a3,gW,oI,rfl,l,r,Q,Z,R,H,M,-⟩;go_wp2_with fail;refine (J2 H M X (by omega)).mono ?_;clear H M;rintro e w2⟨f,v,a4,Qu,BX,rfl,m,I,K,a0,U9,H,M,-⟩;go_wp2_with fail;refine (wP H M).mono ?_;clear H M;rintro e w3⟨a,OY,rfl,n,S,q3,H,M,-⟩;have x:¬ 9223372036854775807 < h.length+a.length:=by omega
 have y:¬ 9223372036854775807 < h.length+a.length+c.length:=by omega
 go_wp2_with fail;refine (wP H M).mono ?_;clear H M;rintro e w4⟨i,KF,rfl,J,T,q4,H,M,-⟩;clear x y;have c0:¬ 9223372036854775807 < h.length+a.length:=by omega
 have c1:¬ 9223372036854775807 < h.length+a.length+c.length:=by omega
 have c2:¬ 9223372036854775807 < h.length+a.length+c.length+i.length:=by omega
 have c3:¬ 9223372036854775807 < h.length+a.length+c.length+i.length+v.length:=by omega
 go_wp2_with fail;obtain⟨Y,u⟩:∃ Y:Bs,Hid (h ++ (a ++ (c ++ (i ++ v)))=Y):=⟨_,O rfl⟩;rw [show aM (h ++ (a ++ (c ++ (i ++ v))))=aM Y from by rw [← u.o] <;> (simp only [← ak];rfl)];have BF:Y.length≤10000000:=by rw [← u.o];simp only [aaO,List.length_cons,List.length_nil];omega
 refine (smH H M (t:=Y) (by omega)).mono ?_;clear H M;rintro e w5⟨S5,SG,rfl,vS,q5,H,M⟩;go_wp2_with fail;refine (Vb H M [j.ix,f.ix] (by simp) (by omega)).mono ?_;clear H M;rintro e w6⟨a5,XB,rfl,H,M,-⟩;go_wp2_with fail;go_ret2
 have F:=O (show Ga ay E b s=bH (fK ay (j.pc ++ (a,opK k,c) :: bN.on i f.pc) (aX ay (aX ay (f.st)))) (gX ay (aX ay (aX ay (f.st)))) ⟨(6+k),[],0,[j.ix,f.ix],0⟩ from by
  unfold Ga
  try simp only
  rw [l.o,m.o,n.o,J.o,q.o,C.o] <;> rfl)
 rw [D.o,F.o]
 refine⟨?_,_,_,_,H.o,M.o⟩
 show _=Ending.returned (.tuple #[.string (aM (aN (fK ay (j.pc ++ (a,opK k,c) :: bN.on i f.pc) (aX ay (aX ay (f.st)))))),.int .i64 (gX ay (aX ay (aX ay (f.st)))).id])
 have G:aN (j.pc ++ (a,opK k,c) :: bN.on i f.pc)=Y:=by
  simp only [aN,qZ,bP];rw [K.o,r.o,← u.o] <;> simp only [List.nil_append,List.append_nil,List.append_assoc,List.cons_append]
 rw [qU,G,vS.o];rfl
end Go.Proofs.YthepmkjggfijoaaGreatDoor
