/-
  A part of the proof.
-/
import Derived.Test.YthepmkjggfijoaaGreatDoorSA
import Derived.Test.YthepmkjggfijoaaGreatDoorJ06
set_option linter.all false
set_option maxRecDepth 100000
set_option maxHeartbeats 4000000
namespace Go.Proofs.YthepmkjggfijoaaGreatDoor
open Go.RowKit Mist
attribute [local go_sem] aj aH aS aB ak
theorem plParams_any (wild:Bool)(N:Nat)(hN:N≤700000)(m:Nat)(hm:m≤6)(g:Nat)(iv:Value)(w:World)(s:abd)(xs:List NV)(nv lv:Value)(h:abH g wild iv w s xs nv lv)(hn:s.ns.length≤N) :
  Calls Tryz.prog 115 #[.pointer (some ⟨g,0,none⟩),.int .i64 (m:Int)] w (LiPost g wild iv w xs nv (acO wild m ⟨[],[],s⟩)):=by
 have F:=O h;have V:=O (abJ.refl (g:=g) (w:=w) (xs:=xs) (nv:=nv));clear h;obtain⟨j0,hj0,hy0,hy1,hy2⟩:=info_parts gN;have hg0:=F.o.lt;have HKC:=O (vo wild);have HKB:=O (show ∀ z,tl (acQ wild 2 z).pc≤100∧(acQ wild 2 z).st.ns.length≤z.ns.length+3 from fun z=>⟨Nat.le_trans (kind_bd wild 2 z).1 (by omega),(kind_bd wild 2 z).2⟩);have Xp:=O (abK.empty (w0:=w) F.o rfl (aaJ _));have HH:=O (F.o.alloc (.cells #[] 3));have MM:=O (V.o.dD (o:=.cells #[] 3));clear F V;go_in
 go_wp2_with fail;go_loopw [6,7,8] (fun sv l0 i wr=>∃ (k:Nat) (r:aa') (A:Option Addr) (c:Nat) (L:List NV) (gW lv1:Value),k≤m∧i=.int .i64 k∧sv=.string (aM (aN r.pc))∧l0=.slice A r.ix.length c∧Hid (r.ix.length=k)∧(aN r.pc).length≤k * 200∧r.st.ns.length≤N+k * 10∧Hid (acO wild (m - k) r=acO wild m ⟨[],[],s⟩)∧Hid (abK w wr L (.slice A r.ix.length c) r.ix)∧Hid (abH g wild iv wr r.st L gW lv1)∧Hid (abJ g w xs nv wr L gW)) (fun _ _ i _=>m - (intOf i).toNat)
 case atStart=>exact⟨0,⟨[],[],s⟩,_,_,xs,nv,lv,aaL _,rfl,rfl,rfl,O rfl,by simp [aN],(by first|(simpa using hn)|(show s.tl.ns.length≤_;omega)),O rfl,Xp,HH,MM⟩
 case round =>
  clear Xp HH MM;obtain⟨wo,rfl⟩:∃ wo:World,wo=wr:=⟨_,rfl⟩;obtain⟨k,r,A,c,L,gW,lv9,hk,rfl,rfl,rfl,D,hlen,hnl,HR,f,F,V⟩:=hrel;by_cases S:k < m
  ·obtain⟨mm,hmm⟩:∃ mm,m - k=mm+1:=⟨m - k - 1,by omega⟩;have W:m - (k+1)=mm:=by omega
   rw [hmm] at HR
   have U1:=O W;clear hmm W;obtain⟨X,hX⟩:∃ X,X=aN r.pc:=⟨_,rfl⟩;rw [← hX] at hlen ⊢
   have HX9:=O hX;clear hX;by_cases hk0:k=0
   ·subst hk0;have hnil:r.ix=[]:=List.eq_nil_of_length_eq_zero D.o;have j:=O (show acO wild (mm+1) r=acO wild mm ⟨r.pc ++ (([],1,acM r.st.nx) :: sgn [58] :: Pcs.on (acP wild (acQ wild 2 r.st.tl).st) (acQ wild 2 r.st.tl).pc),r.ix ++ [(acJ wild (acQ wild 2 r.st.tl).st).id],(acJ wild (acQ wild 2 r.st.tl).st).put ⟨34,acM r.st.nx,0,[(acQ wild 2 r.st.tl).ix],0⟩⟩ by rw [acO];simp only [if_pos hnil]);clear hnil;go_wp2_with fail;refine (plNext_any g wild _ _ (r.st) _ _ _ F.o).mono ?_;rintro e w1⟨rfl,lv1,h,m⟩;have H1:=O h;have M1:=O (V.o.mvp m)
    replace f:=O (f.o.mv F.o m)
    clear h m F V;go_wp2_with fail;refine (plWord_any (r.st).nx _).mono ?_;rintro e w99⟨rfl,rfl⟩;have ly:=wordG_le (r.st).nx;obtain⟨y,hy⟩:∃ y,y=acM (r.st).nx:=⟨_,rfl⟩;rw [← hy] at ly j ⊢
    clear hy;have hs0:(r.st).tl.ns.length=r.st.ns.length:=rfl;have I:=O fun u=>on_text (typ_good wild 2 (r.st).tl) u
    go_wp2_with fail;refine (HKC.o g _ _ ((r.st).tl) _ _ _ H1.o (by first | omega|(simp only [acI];omega))).mono ?_;rintro e w2⟨rfl,xs2,Qu,lv2,h,m⟩;have U:=O h;have M2:=O (M1.o.trans m)
    replace f:=O (f.o.mw H1.o m)
    clear h m H1 M1;obtain⟨bt2,bn2⟩:=HKB.o ((r.st).tl);obtain⟨l,ha2⟩:∃ a,a=acQ wild 2 ((r.st).tl):=⟨_,rfl⟩;rw [← ha2] at U bt2 bn2 ⊢
    obtain⟨T2,P⟩:∃ T,T=aN l.pc:=⟨_,rfl⟩;have tl2:T2.length≤100:=by rw [P];exact bt2
    rw [← P];have HA2:=O ha2;have HT2:=O P;clear ha2 P bt2
    (try simp only [acI] at bn2)
    rw [← HA2.o] at j I
    have ca0:¬ 9223372036854775807 < X.length+y.length:=by omega
    have ca1:¬ 9223372036854775807 < X.length+y.length+1:=by omega
    go_wp2_with fail;refine (plGap_any g wild _ _ (l.st) _ _ _ U.o).mono ?_;rintro e w3⟨rfl,lv3,h,m⟩;have H3:=O h;have M3:=O (M2.o.mvp m)
    replace f:=O (f.o.mv U.o m)
    clear h m U M2;have gl3:=gapG_len wild (l.st);obtain⟨G3,hG3⟩:∃ G,G=acP wild (l.st):=⟨_,rfl⟩;rw [← hG3] at gl3 ⊢
    have HG3:=O hG3;clear hG3;clear ca0 ca1;rw [← HG3.o] at j
    have cb0:¬ 9223372036854775807 < X.length+y.length:=by omega
    have cb1:¬ 9223372036854775807 < X.length+y.length+1:=by omega
    have cb2:¬ 9223372036854775807 < X.length+y.length+1+G3.length:=by omega
    have cb3:¬ 9223372036854775807 < X.length+y.length+1+G3.length+T2.length:=by omega
    have B:=O (f.o.apart (n:=1) (c:=1) (aaJ _))
    replace f:=O (f.o.alloc (.cells (intCells [l.ix]).toArray 3))
    have abR:=O (Mx w3 [l.ix]);have HK:=O (H3.o.alloc (.cells (intCells [l.ix]).toArray 3));have abS:=O (M3.o.dD (o:=.cells (intCells [l.ix]).toArray 3));have t:=M3.o.size;clear H3 M3;go_wp2_with fail;obtain⟨Y,R⟩:∃ Y:Bs,Y=X ++ y ++ [58] ++ G3 ++ T2:=⟨_,rfl⟩;rw [show aM (X ++ y) ++ (⟨#[58]⟩:ByteArray) ++ aM (G3) ++ aM (T2)=aM Y from by rw [R] <;> (simp only [← ak];rfl)];have abT:Y.length≤10000000:=by rw [R];simp only [aaO,List.length_cons,List.length_nil];omega
    have HY:=O R;clear R;refine (plPut_any g wild _ _ (acJ wild (l.st)) _ _ _ HK.o 34 y 0 _ [l.ix] abR.o (by first | omega|(simp only [acI,someS_ns];omega))).mono ?_;rintro e w4⟨rfl,yH,h,m⟩
    replace f:=O (f.o.put HK.o h m B.o)
    have H4:=O h;have M4:=O (abS.o.putp (x:=(⟨34,y,0,[l.ix],0⟩,(.slice (some ⟨w3.heap.size,0,none⟩) 1 1))) m (gw_at t));clear h m;have C:=O (f.o.alloc (.cells #[.int .i64 (abd.id (acJ wild (l.st)))] 3));have HA:=O (H4.o.alloc (.cells #[.int .i64 (abd.id (acJ wild (l.st)))] 3));have MA:=O (M4.o.dD (o:=(.cells #[.int .i64 (abd.id (acJ wild (l.st)))] 3)));have t:=MA.o.size;have hrl:r.ix.length≤6:=by have:=D.o;omega
    go_wp2_with (at_builtin;go_loud (refine wpList_append_lies _ rfl (.tmp 42) (.tmp 49) 24 rfl 0 3 j0 (.int .i64 0) 1 8 Tryz.underlying24 hj0 hy0 hy1 hy2 rfl (by decide) _ r.ix.length (intCells r.ix) rfl C.o.row ⟨w4.heap.size,0,none⟩ 1 1 [.int .i64 (abd.id (acJ wild (l.st)))] rfl rfl (cell_one_new _ _ _) (by simp [Value.oneCell']) (by omega) (by simp only [maxLen];omega) (by omega) (aaL _) _ rfl ?_);intro gg14 cap14 Tx v d K S;have L33:=O (C.o.grow HA.o v K t);have H33:=O (HA.o.grow C.o d (fun b hb=>aaK (aaW hg0 (C.o.lo b hb))));have M33:=O (MA.o.grow C.o d);clear v d K S)
    clear C HA MA t f H4 M4;have J:=O (show Y=aN (r.pc ++ (([],1,y) :: sgn [58] :: Pcs.on G3 l.pc)) by rw [qZ,HY.o,← HX9.o];simp only [aN,sgn];rw [I.o,HT2.o];simp only [List.nil_append,List.append_nil,List.append_assoc,List.cons_append]);exact⟨⟨0+1,⟨r.pc ++ (([],1,y) :: sgn [58] :: Pcs.on G3 l.pc),r.ix ++ [abd.id (acJ wild (l.st))],(acJ wild (l.st)).put ⟨34,y,0,[l.ix],0⟩⟩,_,_,_,_,_,by omega,by go_num,congrArg Value.string (congrArg aM J.o),by rw [aaO];rfl,O (by rw [aaO,D.o];rfl),by rw [← J.o,HY.o];simp only [aaO,List.length_cons,List.length_nil];omega,by show (abd.put _ _).ns.length≤_;rw [put_len,acI];omega,O (by show acO wild (m - (0+1)) _=_;rw [U1.o,← j.o,HR.o]),by rw [aaO];exact L33,H33,M33⟩,by simp [intOf];omega⟩
   ·have hne:r.ix ≠ []:=fun h=>hk0 (by rw [← D.o,h];rfl)
    have j:=O (show acO wild (mm+1) r=acO wild mm ⟨r.pc ++ (sgn [44] :: (acP wild r.st,1,acM (acJ wild r.st).nx) :: sgn [58] :: Pcs.on (acP wild (acQ wild 2 (acJ wild r.st).tl).st) (acQ wild 2 (acJ wild r.st).tl).pc),r.ix ++ [(acJ wild (acQ wild 2 (acJ wild r.st).tl).st).id],(acJ wild (acQ wild 2 (acJ wild r.st).tl).st).put ⟨34,acM (acJ wild r.st).nx,0,[(acQ wild 2 (acJ wild r.st).tl).ix],0⟩⟩ by rw [acO];simp only [if_neg hne]);have abQ:(0:Int) < (k:Int):=by omega
    clear hne hk0;go_wp2_with fail;refine (plGap_any g wild _ _ (r.st) _ _ _ F.o).mono ?_;rintro e w1⟨rfl,lv1,h,m⟩;have H1:=O h;have M1:=O (V.o.mvp m)
    replace f:=O (f.o.mv F.o m)
    clear h m F V;have gl1:=gapG_len wild (r.st);obtain⟨G1,hG1⟩:∃ G,G=acP wild (r.st):=⟨_,rfl⟩;rw [← hG1] at gl1 ⊢
    have HG1:=O hG1;clear hG1;rw [← HG1.o] at j
    have cg0:¬ 9223372036854775807 < 1+G1.length:=by omega
    have cg1:¬ 9223372036854775807 < X.length+(1+G1.length):=by omega
    go_wp2_with fail;obtain⟨Z,hZ⟩:∃ Z:Bs,Z=X ++ ([44] ++ G1):=⟨_,rfl⟩;rw [show (aM X ++ ((⟨#[44]⟩:ByteArray) ++ aM G1))=aM Z from by rw [hZ,← ak,← ak];rfl];have hZl:Z.length≤X.length+9:=by rw [hZ];simp only [aaO,List.length_cons,List.length_nil];omega
    have HZ:=O hZ;clear hZ cg0 cg1;refine (plNext_any g wild _ _ (acJ wild (r.st)) _ _ _ H1.o).mono ?_;rintro e w2⟨rfl,lv2,h,m⟩;have U:=O h;have M2:=O (M1.o.mvp m)
    replace f:=O (f.o.mv H1.o m)
    clear h m H1 M1;go_wp2_with fail;refine (plWord_any ((acJ wild r.st)).nx _).mono ?_;rintro e w99⟨rfl,rfl⟩;have ly:=wordG_le ((acJ wild r.st)).nx;obtain⟨y,hy⟩:∃ y,y=acM ((acJ wild r.st)).nx:=⟨_,rfl⟩;rw [← hy] at ly j ⊢
    clear hy;have hs0:((acJ wild r.st)).tl.ns.length=r.st.ns.length:=by show (acJ wild r.st).ns.length=_;rw [acI]
    have I:=O fun u=>on_text (typ_good wild 2 ((acJ wild r.st)).tl) u
    go_wp2_with fail;refine (HKC.o g _ _ ((acJ wild (r.st)).tl) _ _ _ U.o (by first | omega|(simp only [acI];omega))).mono ?_;rintro e w3⟨rfl,Xj,FM,lv3,h,m⟩;have H3:=O h;have M3:=O (M2.o.trans m)
    replace f:=O (f.o.mw U.o m)
    clear h m U M2;obtain⟨bt3,bn3⟩:=HKB.o ((acJ wild (r.st)).tl);obtain⟨q,FK⟩:∃ a,a=acQ wild 2 ((acJ wild (r.st)).tl):=⟨_,rfl⟩;rw [← FK] at H3 bt3 bn3 ⊢
    obtain⟨T3,Q⟩:∃ T,T=aN q.pc:=⟨_,rfl⟩;have tl3:T3.length≤100:=by rw [Q];exact bt3
    rw [← Q];have gM:=O FK;have HT3:=O Q;clear FK Q bt3
    (try simp only [acI] at bn3)
    rw [← gM.o] at j I
    have ca0:¬ 9223372036854775807 < Z.length+y.length:=by omega
    have ca1:¬ 9223372036854775807 < Z.length+y.length+1:=by omega
    go_wp2_with fail;refine (plGap_any g wild _ _ (q.st) _ _ _ H3.o).mono ?_;rintro e w4⟨rfl,lv4,h,m⟩;have H4:=O h;have M4:=O (M3.o.mvp m)
    replace f:=O (f.o.mv H3.o m)
    clear h m H3 M3;have gl4:=gapG_len wild (q.st);obtain⟨G4,hG4⟩:∃ G,G=acP wild (q.st):=⟨_,rfl⟩;rw [← hG4] at gl4 ⊢
    have Jf:=O hG4;clear hG4;clear ca0 ca1;rw [← Jf.o] at j
    have cb0:¬ 9223372036854775807 < Z.length+y.length:=by omega
    have cb1:¬ 9223372036854775807 < Z.length+y.length+1:=by omega
    have cb2:¬ 9223372036854775807 < Z.length+y.length+1+G4.length:=by omega
    have cb3:¬ 9223372036854775807 < Z.length+y.length+1+G4.length+T3.length:=by omega
    have B:=O (f.o.apart (n:=1) (c:=1) (aaJ _))
    replace f:=O (f.o.alloc (.cells (intCells [q.ix]).toArray 3))
    have abR:=O (Mx w4 [q.ix]);have HK:=O (H4.o.alloc (.cells (intCells [q.ix]).toArray 3));have abS:=O (M4.o.dD (o:=.cells (intCells [q.ix]).toArray 3));have t:=M4.o.size;clear H4 M4;go_wp2_with fail;obtain⟨Y,R⟩:∃ Y:Bs,Y=Z ++ y ++ [58] ++ G4 ++ T3:=⟨_,rfl⟩;rw [show aM (Z ++ y) ++ (⟨#[58]⟩:ByteArray) ++ aM (G4) ++ aM (T3)=aM Y from by rw [R] <;> (simp only [← ak];rfl)];have abT:Y.length≤10000000:=by rw [R];simp only [aaO,List.length_cons,List.length_nil];omega
    have HY:=O R;clear R;refine (plPut_any g wild _ _ (acJ wild (q.st)) _ _ _ HK.o 34 y 0 _ [q.ix] abR.o (by first | omega|(simp only [acI,someS_ns];omega))).mono ?_;rintro e w5⟨rfl,Fu,h,m⟩
    replace f:=O (f.o.put HK.o h m B.o)
    have H5:=O h;have M5:=O (abS.o.putp (x:=(⟨34,y,0,[q.ix],0⟩,(.slice (some ⟨w4.heap.size,0,none⟩) 1 1))) m (gw_at t));clear h m;have C:=O (f.o.alloc (.cells #[.int .i64 (abd.id (acJ wild (q.st)))] 3));have HA:=O (H5.o.alloc (.cells #[.int .i64 (abd.id (acJ wild (q.st)))] 3));have MA:=O (M5.o.dD (o:=(.cells #[.int .i64 (abd.id (acJ wild (q.st)))] 3)));have t:=MA.o.size;have hrl:r.ix.length≤6:=by have:=D.o;omega
    go_wp2_with (at_builtin;go_loud (refine wpList_append_lies _ rfl (.tmp 42) (.tmp 49) 24 rfl 0 3 j0 (.int .i64 0) 1 8 Tryz.underlying24 hj0 hy0 hy1 hy2 rfl (by decide) _ r.ix.length (intCells r.ix) rfl C.o.row ⟨w5.heap.size,0,none⟩ 1 1 [.int .i64 (abd.id (acJ wild (q.st)))] rfl rfl (cell_one_new _ _ _) (by simp [Value.oneCell']) (by omega) (by simp only [maxLen];omega) (by omega) (aaL _) _ rfl ?_);intro gg14 cap14 Tx v d K S;have L33:=O (C.o.grow HA.o v K t);have H33:=O (HA.o.grow C.o d (fun b hb=>aaK (aaW hg0 (C.o.lo b hb))));have M33:=O (MA.o.grow C.o d);clear v d K S)
    clear C HA MA t f H5 M5;have J:=O (show Y=aN (r.pc ++ (sgn [44] :: (G1,1,y) :: sgn [58] :: Pcs.on G4 q.pc)) by rw [qZ,HY.o,HZ.o,← HX9.o];simp only [aN,sgn];rw [I.o,HT3.o];simp only [List.nil_append,List.append_nil,List.append_assoc,List.cons_append]);exact⟨⟨k+1,⟨r.pc ++ (sgn [44] :: (G1,1,y) :: sgn [58] :: Pcs.on G4 q.pc),r.ix ++ [abd.id (acJ wild (q.st))],(acJ wild (q.st)).put ⟨34,y,0,[q.ix],0⟩⟩,_,_,_,_,_,by omega,by go_num,congrArg Value.string (congrArg aM J.o),by rw [aaO];rfl,O (by rw [aaO,D.o];rfl),by rw [← J.o,HY.o];simp only [aaO,List.length_cons,List.length_nil];omega,by show (abd.put _ _).ns.length≤_;rw [put_len,acI];omega,O (by show acO wild (m - (k+1)) _=_;rw [U1.o,← j.o,HR.o]),by rw [aaO];exact L33,H33,M33⟩,by simp [intOf];omega⟩
  ·obtain rfl:k=m:=by omega
   have HRR:=O (show acO wild k ⟨[],[],s⟩=r by rw [← HR.o,Nat.sub_self];rfl);clear HR;go_wp2_with fail;go_ret2
   rw [HRR.o];exact⟨A,c,L,gW,lv9,rfl,f.o,F.o,V.o⟩
theorem plNumber_any (wild:Bool)(n:Int)(k:-1000≤n)(l:n≤1000)(g:Nat)(iv:Value)(w:World)(s:abd)(xs:List NV)(nv lv:Value)(h:abH g wild iv w s xs nv lv)(r:s.ns.length≤900000) :
  Calls Tryz.prog 112 #[.pointer (some ⟨g,0,none⟩),.int .i64 n] w (GPost g wild iv w xs nv (numberG n s)):=by
 have b:=O h;have c:=O (abJ.refl (g:=g) (w:=w) (xs:=xs) (nv:=nv));clear h;go_in
 go_wp2_with fail;refine (plItoa_any (n) (by omega) (by omega) g wild _ _ (s) _ _ _ b.o).mono ?_;rintro e w1⟨rfl,a⟩;have d:=O (b.o.below a);have i:=O (c.o.aL a);clear a b c;go_wp2_with fail;refine (plPut_any g wild _ _ (s) _ _ _ d.o 1 [] n _ [] (cB.none_ _) (by first | omega|(simp only [acI,someS_ns];omega))).mono ?_;rintro e t⟨rfl,q,h,m⟩;have f:=O h;have j:=O (i.o.putp (x:=(⟨1,[],n,[],0⟩,(.slice none 0 0))) m gw_none);clear h m;go_wp2_with fail;go_ret2
 refine⟨?_,_,_,_,f.o,j.o⟩
 show _=Ending.returned (.tuple #[.string (aM (aN (numPc n))),.int .i64 (s).id])
 rw [numPc_text];rfl
def Kp (w:World)(xs:List NV)(w':World)(xs':List NV):Prop:=∀ (w1:World) (v:Value) (ks:List Int),abK w1 w xs v ks→abK w1 w' xs' v ks
theorem kp {w b w1:World}{xs a:List NV}{v:Value}{ks:List Int}(R:Hid (Kp w xs b a))(L:Hid (abK w1 w xs v ks)):Hid (abK w1 b a v ks):=O (R.o _ _ _ L.o)
theorem on_ne {I:Pcs}(h:I ≠ [])(g:Bs):aN (Pcs.on g I)=g ++ aN I:=by
 cases I with
 | nil=>exact absurd rfl h
 | cons x I =>
  obtain⟨a,k,t⟩:=x
  show (g ++ a) ++ (t ++ aN I)=g ++ (a ++ (t ++ aN I))
  rw [List.append_assoc]
theorem num_ne (n:Int):numPc n ≠ []:=by unfold numPc;split <;> simp
structure aci (wild:Bool) (E:abd→abb) (N:Nat) (dv:Value):Prop where
 o:∀ (g:Nat) (iv:Value) (w:World) (s:abd) (xs:List NV) (nv lv:Value),abH g wild iv w s xs nv lv→s.ns.length≤N →
  Calls Tryz.prog 117 #[.pointer (some ⟨g,0,none⟩),dv] w (GPost g wild iv w xs nv (E s))
 bd:abL E 100000 10000
 good:∀ s,abe (E s).pc
def LsC (wild:Bool)(E:abd→abb)(N:Nat)(dv:Value):Prop:=∀ (m:Nat),m≤4→∀ (g:Nat) (iv:Value) (w:World) (s:abd) (xs:List NV) (nv lv:Value),abH g wild iv w s xs nv lv→s.ns.length≤N →
 Calls Tryz.prog 176 #[.pointer (some ⟨g,0,none⟩),.int .i64 (m:Int),dv] w (LiPost g wild iv w xs nv (acU wild E m ⟨[],[],s⟩))
theorem bd_more {E:abd→abb}{L C b a:Nat}(h:abL E L C)(h1:L≤b)(h2:C≤a):abL E b a:=⟨fun s=>Nat.le_trans (h.text s) h1,fun s=>Nat.le_trans (h.nodes s) (Nat.add_le_add_left h2 _)⟩
theorem list_le (wild:Bool){E:abd→abb}{L C:Nat}(h:abL E L C)(m:Nat)(a:m≤4)(s:abd):tl (acU wild E m ⟨[],[],s⟩).pc≤4 * (L+9)∧(acU wild E m ⟨[],[],s⟩).st.ns.length≤s.ns.length+4 * C∧(acU wild E m ⟨[],[],s⟩).ix.length=m:=by
 obtain⟨h1,h2,h3⟩:=list_bd wild h m ⟨[],[],s⟩;have b:m * (L+9)≤4 * (L+9):=Nat.mul_le_mul_right _ a;have c:m * C≤4 * C:=Nat.mul_le_mul_right _ a;rw [tl_nil] at h1
 have h2:(acU wild E m ⟨[],[],s⟩).st.ns.length≤s.ns.length+m * C:=h2;have h3:(acU wild E m ⟨[],[],s⟩).ix.length=0+m:=h3;exact⟨by omega,by omega,by omega⟩
section
variable {g N:Nat} {wild:Bool} {iv nv0 nv lv dv:Value} {w0 w:World} {s:abd} {xs0 xs:List NV} {E:abd→abb} (H:Hid (abH g wild iv w s xs nv lv)) (M:Hid (abJ g w0 xs0 nv0 w xs nv))
include H M
theorem nxH:Calls Tryz.prog 110 #[.pointer (some ⟨g,0,none⟩)] w fun e b=>∃ a,e=.returned (.int .i64 s.nx)∧s.tl.ns.length=s.ns.length∧Hid (abH g wild iv b s.tl xs nv a)∧Hid (abJ g w0 xs0 nv0 b xs nv)∧Hid (Kp w xs b xs):=by
 refine (plNext_any g wild iv _ s _ _ _ H.o).mono ?_;rintro e b ⟨rfl,a,h,m⟩;exact⟨a,rfl,rfl,O h,O (M.o.mvp m),O fun w1 v ks L=>L.mv H.o m⟩
theorem gpH:Calls Tryz.prog 113 #[.pointer (some ⟨g,0,none⟩)] w fun e b=>∃ G a,e=.returned (.string (aM G))∧Hid (acP wild s=G)∧G.length≤8∧(acJ wild s).ns.length=s.ns.length∧Hid (abH g wild iv b (acJ wild s) xs nv a)∧Hid (abJ g w0 xs0 nv0 b xs nv)∧Hid (Kp w xs b xs):=by
 refine (plGap_any g wild iv _ s _ _ _ H.o).mono ?_;rintro e b ⟨rfl,a,h,m⟩;exact⟨_,a,rfl,O rfl,gapG_len wild s,by rw [acI],O h,O (M.o.mvp m),O fun w1 v ks L=>L.mv H.o m⟩
theorem smH {t:Bs}(c:t.length≤10000000):Calls Tryz.prog 195 #[.pointer (some ⟨g,0,none⟩),.string (aM t)] w fun e b=>∃ S a,e=.returned (.string (aM S))∧Hid (someT wild t s=S)∧(someS wild s).ns.length=s.ns.length∧Hid (abH g wild iv b (someS wild s) xs nv a)∧Hid (abJ g w0 xs0 nv0 b xs nv):=by
 refine (plSome_any g wild iv _ s _ _ _ H.o t (by omega)).mono ?_;rintro e b ⟨rfl,a,h,m⟩;exact⟨_,a,rfl,O rfl,by rw [someS_ns],O h,O (M.o.mvp m)⟩
theorem exH (X:Hid (aci wild E N dv))(f:s.ns.length≤N):Calls Tryz.prog 117 #[.pointer (some ⟨g,0,none⟩),dv] w fun e d=>∃ a T b eO c,e=.returned (.tuple #[.string (aM T),.int .i64 a.ix])∧Hid (E s=a)∧Hid (aN a.pc=T)∧Hid (∀ u,aN (Pcs.on u a.pc)=u ++ T)∧T.length≤100000∧a.st.ns.length≤s.ns.length+10000∧Hid (abH g wild iv d a.st b eO c)∧Hid (abJ g w0 xs0 nv0 d b eO)∧Hid (Kp w xs d b):=by
 refine (X.o.o g iv _ s _ _ _ H.o f).mono ?_;rintro e d ⟨rfl,b,eO,c,h,m⟩;exact⟨_,_,b,eO,c,rfl,O rfl,O rfl,O (on_text (X.o.good s)),X.o.bd.text s,X.o.bd.nodes s,O h,O (M.o.trans m),O fun w1 v ks L=>L.mw H.o m⟩
theorem lsH (X:Hid (aci wild E N dv)){n:Nat}{f:Value}(j:Hid (LsC wild E n f)){m:Nat}(q:m≤4)(B:s.ns.length≤n):Calls Tryz.prog 176 #[.pointer (some ⟨g,0,none⟩),.int .i64 (m:Int),f] w fun e i=>∃ r T A c a eO d,e=.returned (.tuple #[.string (aM T),.slice A r.ix.length c])∧Hid (acU wild E m ⟨[],[],s⟩=r)∧Hid (aN r.pc=T)∧Hid (m ≠ 0→∀ u,aN (Pcs.on u r.pc)=u ++ T)∧Hid (m=0→r.pc=[])∧T.length≤500000∧r.st.ns.length≤s.ns.length+40000∧Hid (abK w0 i a (.slice A r.ix.length c) r.ix)∧Hid (abH g wild iv i r.st a eO d)∧Hid (abJ g w0 xs0 nv0 i a eO)∧Hid (Kp w xs i a):=by
 refine (j.o m q g iv _ s _ _ _ H.o B).mono ?_;rintro e i ⟨A,c,a,eO,d,rfl,l,h,k⟩;obtain⟨b1,b2,t⟩:=list_le wild X.o.bd m q s;have y:=list_good wild X.o.good m ⟨[],[],s⟩ (li0 _);exact⟨_,_,A,c,a,eO,d,rfl,O rfl,O rfl,O fun h0=>on_text (y.2 fun h=>h0 (by rw [← t,h];rfl)),O fun h0=>by rw [h0];rfl,Nat.le_trans b1 (by omega),by omega,O ⟨l.row,fun b x=>Nat.le_trans M.o.size (l.lo b x),l.far⟩,O h,O (M.o.trans k),O fun w1 v ks L=>L.mw H.o k⟩
theorem ptH {K:Nat}{x:Bs}{n:Int}(ks:List Int)(d:ks.length≤1000)(f:s.ns.length≤1000000):Calls Tryz.prog 114 #[.pointer (some ⟨g,0,none⟩),.agg #[.int .u8 K,.string (aM x),.int .i64 n,.slice (some ⟨w.heap.size,0,none⟩) ks.length ks.length,.int .i64 0]] (w.alloc (.cells (intCells ks).toArray 3)) fun e b=>∃ a eO,e=.returned (.int .i64 s.id)∧Hid (abH g wild iv b (s.put ⟨K,x,n,ks,0⟩) a eO lv)∧Hid (abJ g w0 xs0 nv0 b a eO)∧Hid (Kp w xs b a):=by
 have c:=H.o.alloc (.cells (intCells ks).toArray 3);refine (plPut_any g wild iv _ s _ _ _ c K x n _ ks (Mx w ks d) f).mono ?_;rintro e b ⟨rfl,eO,h,m⟩;exact⟨_,eO,rfl,O h,O (M.o.dD.putp m (gw_at M.o.size)),O fun w1 v i L=>(L.alloc _).put c h m (L.apart (aaJ _))⟩
theorem ptN {K:Nat}{x:Bs}{n:Int}(c:s.ns.length≤1000000):Calls Tryz.prog 114 #[.pointer (some ⟨g,0,none⟩),.agg #[.int .u8 K,.string (aM x),.int .i64 n,.slice none 0 0,.int .i64 0]] w fun e b=>∃ a eO,e=.returned (.int .i64 s.id)∧Hid (abH g wild iv b (s.put ⟨K,x,n,[],0⟩) a eO lv)∧Hid (abJ g w0 xs0 nv0 b a eO)∧Hid (Kp w xs b a):=by
 refine (plPut_any g wild iv _ s _ _ _ H.o K x n _ [] (cB.none_ _) c).mono ?_;rintro e b ⟨rfl,eO,h,m⟩;exact⟨_,eO,rfl,O h,O (M.o.putp m gw_none),O fun w1 v d L=>L.put H.o h m (.inl rfl)⟩
theorem ptL {K:Nat}{x:Bs}{n:Int}{A:Option Addr}{c k:Nat}{ks:List Int}(L:Hid (abK w0 w xs (.slice A k c) ks))(f:s.ns.length≤1000000):Calls Tryz.prog 114 #[.pointer (some ⟨g,0,none⟩),.agg #[.int .u8 K,.string (aM x),.int .i64 n,.slice A k c,.int .i64 0]] w fun e d=>∃ a eO,e=.returned (.int .i64 s.id)∧Hid (abH g wild iv d (s.put ⟨K,x,n,ks,0⟩) a eO lv)∧Hid (abJ g w0 xs0 nv0 d a eO)∧Hid (∀ (w1:World) (v:Value) (js:List Int),(∀ b,v.ownBlock=some b→b < w0.heap.size)→abK w1 w xs v js→abK w1 d a v js):=by
 refine (plPut_any g wild iv _ s _ _ _ H.o K x n _ ks L.o.row f).mono ?_;rintro e d ⟨rfl,eO,h,m⟩
 refine⟨_,eO,rfl,O h,O (M.o.putp m L.o.lo),O fun w1 v js hv Q=>Q.put H.o h m ?_⟩
 rcases h9:(Value.slice A k c).ownBlock with _ | b
 ·exact .inl rfl
 ·right
  intro e;have h1:=L.o.lo b h9;have h2:=hv b e.symm;omega
theorem itH {n:Int}(h0:-1000000≤n)(h1:n≤1000000):Calls Tryz.prog 77 #[.int .i64 n] w fun e a=>∃ U,e=.returned (.string (aM U))∧Hid (Go.Lib.itoa n=U)∧Hid (abH g wild iv a s xs nv lv)∧Hid (abJ g w0 xs0 nv0 a xs nv)∧Hid (Kp w xs a xs):=by
 refine (plItoa_any n h0 h1 g wild iv _ s _ _ _ H.o).mono ?_;rintro e a ⟨rfl,b⟩;exact⟨_,rfl,O rfl,O (H.o.below b),O (M.o.aL b),O fun w1 v ks L=>L.below b⟩
end
theorem wdH (b:Nat)(w:World):Calls Tryz.prog 111 #[.int .i64 (b:Int)] w fun e a=>∃ x,e=.returned (.string (aM x))∧Hid (acM b=x)∧x.length≤4∧a=w:=by
 refine (plWord_any b w).mono ?_;rintro e a ⟨rfl,rfl⟩;exact⟨_,rfl,O rfl,wordG_le b,rfl⟩
theorem pl_not {wild:Bool}{d N:Nat}{E:abd→abb}(S:N≤900000)(hd:d≤100)(X:Hid (aci wild E (N+50000) (.int .i64 (d:Int))))(b:Nat)(B:b < 75)(m:b % 2=0){g:Nat}{iv:Value}{w:World}{s:abd}{xs:List NV}{nv lv:Value}(H:Hid (abH g wild iv w s xs nv lv))(T:s.ns.length≤N) :
  Calls Tryz.prog 174 #[.pointer (some ⟨g,0,none⟩),.int .i64 (b:Int),.int .i64 ((d:Int)+1)] w (GPost g wild iv w xs nv (opG wild E b s)):=by
 have M:=O (abJ.refl (g:=g) (w:=w) (xs:=xs) (nv:=nv));have zd:IntKind.i64.wrap ((d:Int)+1 - 1)=(d:Int):=by rw [Int.add_sub_cancel];exact IntWalk.i64_in _ ⟨by omega,by omega⟩
 have L:(b:Int) < 75:=by omega
 have C:Int.tmod (b:Int) 2=0:=by rw [Int.tmod_eq_emod_of_nonneg (by omega)];omega
 have n:=O (show opG wild E b s=notG wild E b s by unfold opG;rw [if_pos B]);have l:=O m;clear m;go_in
 go_wp2_with fail;refine (exH H M X (by omega)).mono ?_;clear H M;rintro e w1⟨a,j,J,R,D,rfl,f,u,k,I,y,H,M,-⟩;go_wp2_with fail;refine (gpH H M).mono ?_;clear H M;rintro e W⟨c,F,rfl,h,A,U,H,M,-⟩;have Q:¬ 9223372036854775807 < 3+c.length:=by omega
 have c1:¬ 9223372036854775807 < 3+c.length+j.length:=by omega
 go_wp2_with fail;obtain⟨Y,i⟩:∃ Y:Bs,Hid ([110,111,116] ++ c ++ j=Y):=⟨_,O rfl⟩;rw [show (⟨#[110,111,116]⟩:ByteArray) ++ aM (c) ++ aM (j)=aM Y from by rw [← i.o] <;> (simp only [← ak];rfl)];have x:Y.length≤10000000:=by rw [← i.o];simp only [aaO,List.length_cons,List.length_nil];omega
 refine (smH H M (t:=Y) (by omega)).mono ?_;clear H M;rintro e Z⟨P,G,rfl,v,V,H,M⟩;go_wp2_with fail;refine (ptH H M [a.ix] (by simp) (by omega)).mono ?_;clear H M;rintro e w4⟨K,yH,rfl,H,M,-⟩;go_wp2_with fail;go_ret2
 have q:=O (show notG wild E b s=acV (someP wild (([],3,[110,111,116]) :: Pcs.on c a.pc) (acJ wild (a.st))) (someS wild (acJ wild (a.st))) ⟨5,[],0,[a.ix],0⟩ from by
  unfold notG
  try simp only
  rw [f.o,h.o,if_pos l.o,if_pos l.o] <;> rfl)
 rw [n.o,q.o]
 refine⟨?_,_,_,_,H.o,M.o⟩
 show _=Ending.returned (.tuple #[.string (aM (aN (someP wild (([],3,[110,111,116]) :: Pcs.on c a.pc) (acJ wild (a.st))))),.int .i64 (someS wild (acJ wild (a.st))).id])
 have r:aN (([],3,[110,111,116]) :: Pcs.on c a.pc)=Y:=by
  simp only [aN,qZ,sgn];rw [k.o,← i.o] <;> simp only [List.nil_append,List.append_nil,List.append_assoc,List.cons_append]
 rw [someT_text,r,v.o];rfl
theorem pl_neg {wild:Bool}{d N:Nat}{E:abd→abb}(S:N≤900000)(hd:d≤100)(X:Hid (aci wild E (N+50000) (.int .i64 (d:Int))))(b:Nat)(B:b < 75)(m:¬ b % 2=0){g:Nat}{iv:Value}{w:World}{s:abd}{xs:List NV}{nv lv:Value}(H:Hid (abH g wild iv w s xs nv lv))(T:s.ns.length≤N) :
  Calls Tryz.prog 174 #[.pointer (some ⟨g,0,none⟩),.int .i64 (b:Int),.int .i64 ((d:Int)+1)] w (GPost g wild iv w xs nv (opG wild E b s)):=by
 have M:=O (abJ.refl (g:=g) (w:=w) (xs:=xs) (nv:=nv));have zd:IntKind.i64.wrap ((d:Int)+1 - 1)=(d:Int):=by rw [Int.add_sub_cancel];exact IntWalk.i64_in _ ⟨by omega,by omega⟩
 have L:(b:Int) < 75:=by omega
 have C:Int.tmod (b:Int) 2=1:=by rw [Int.tmod_eq_emod_of_nonneg (by omega)];omega
 have n:=O (show opG wild E b s=notG wild E b s by unfold opG;rw [if_pos B]);have l:=O m;clear m;go_in
 go_wp2_with fail;refine (exH H M X (by omega)).mono ?_;clear H M;rintro e w1⟨a,j,J,R,D,rfl,f,u,k,I,y,H,M,-⟩;go_wp2_with fail;refine (gpH H M).mono ?_;clear H M;rintro e W⟨c,F,rfl,h,A,U,H,M,-⟩;have Q:¬ 9223372036854775807 < 1+c.length:=by omega
 have c1:¬ 9223372036854775807 < 1+c.length+j.length:=by omega
 go_wp2_with fail;obtain⟨Y,i⟩:∃ Y:Bs,Hid ([45] ++ c ++ j=Y):=⟨_,O rfl⟩;rw [show (⟨#[45]⟩:ByteArray) ++ aM (c) ++ aM (j)=aM Y from by rw [← i.o] <;> (simp only [← ak];rfl)];have x:Y.length≤10000000:=by rw [← i.o];simp only [aaO,List.length_cons,List.length_nil];omega
 refine (smH H M (t:=Y) (by omega)).mono ?_;clear H M;rintro e Z⟨P,G,rfl,v,V,H,M⟩;go_wp2_with fail;refine (ptH H M [a.ix] (by simp) (by omega)).mono ?_;clear H M;rintro e w4⟨K,yH,rfl,H,M,-⟩;go_wp2_with fail;go_ret2
 have q:=O (show notG wild E b s=acV (someP wild (sgn [45] :: Pcs.on c a.pc) (acJ wild (a.st))) (someS wild (acJ wild (a.st))) ⟨4,[],0,[a.ix],0⟩ from by
  unfold notG
  try simp only
  rw [f.o,h.o,if_neg l.o,if_neg l.o] <;> rfl)
 rw [n.o,q.o]
 refine⟨?_,_,_,_,H.o,M.o⟩
 show _=Ending.returned (.tuple #[.string (aM (aN (someP wild (sgn [45] :: Pcs.on c a.pc) (acJ wild (a.st))))),.int .i64 (someS wild (acJ wild (a.st))).id])
 have r:aN (sgn [45] :: Pcs.on c a.pc)=Y:=by
  simp only [aN,qZ,sgn];rw [k.o,← i.o] <;> simp only [List.nil_append,List.append_nil,List.append_assoc,List.cons_append]
 rw [someT_text,r,v.o];rfl
theorem run_ops (r:Nat)(h:r < 13)(w:World):Sem.run Tryz.prog (Instr.index 92 (.agg #[.string ⟨#[43]⟩,.string ⟨#[45]⟩,.string ⟨#[42]⟩,.string ⟨#[47]⟩,.string ⟨#[37]⟩,.string ⟨#[61,61]⟩,.string ⟨#[33,61]⟩,.string ⟨#[60]⟩,.string ⟨#[60,61]⟩,.string ⟨#[62]⟩,.string ⟨#[62,61]⟩,.string ⟨#[97,110,100]⟩,.string ⟨#[111,114]⟩]) (.int .i64 r)) w=.ok (.string (aM (sg opsG r))) w:=by
 obtain rfl | rfl | rfl | rfl | rfl | rfl | rfl | rfl | rfl | rfl | rfl | rfl | rfl:r=0∨r=1∨r=2∨r=3∨r=4∨r=5∨r=6∨r=7∨r=8∨r=9∨r=10∨r=11∨r=12:=by omega
 all_goals kernel_rfl
theorem pl_bin {wild:Bool}{d N:Nat}{E:abd→abb}(hN:N≤900000)(hd:d≤100)(X:Hid (aci wild E (N+50000) (.int .i64 (d:Int))))(b:Nat)(Z:¬ b < 75)(hb2:b < 150){g:Nat}{iv:Value}{w:World}{s:abd}{xs:List NV}{nv lv:Value}(H:Hid (abH g wild iv w s xs nv lv))(hn:s.ns.length≤N) :
  Calls Tryz.prog 174 #[.pointer (some ⟨g,0,none⟩),.int .i64 (b:Int),.int .i64 ((d:Int)+1)] w (GPost g wild iv w xs nv (opG wild E b s)):=by
 have M:=O (abJ.refl (g:=g) (w:=w) (xs:=xs) (nv:=nv));have zd:IntKind.i64.wrap ((d:Int)+1 - 1)=(d:Int):=by rw [Int.add_sub_cancel];exact IntWalk.i64_in _ ⟨by omega,by omega⟩
 have z75:¬ (b:Int) < 75:=by omega
 obtain⟨k,C⟩:∃ k,k=b % 13:=⟨_,rfl⟩;have m:k < 13:=by omega
 have hm2:Int.tmod (b:Int) 13=(k:Int):=by rw [Int.tmod_eq_emod_of_nonneg (by omega),C];omega
 have G:=O (show opG wild E b s=binG wild E b s by unfold opG;rw [if_neg Z]);have u:=O C.symm;have j:=run_ops k m;have D:=opG_le k;obtain⟨a,F⟩:∃ a,Hid (sg opsG k=a):=⟨_,O rfl⟩;rw [F.o] at j D
 have zk0:(0:Int)≤(k:Int):=by omega
 have zk1:(k:Int) < 13:=by omega
 have R:IntKind.u8.wrap (k:Int)=(k:Int):=IntWalk.u8_in _ (by omega);have zv:IntKind.u8.wrap (6+(k:Int))=((6+k:Nat):Int):=by rw [IntWalk.u8_in _ (by omega)];omega
 clear C;go_in
 go_wp2_with fail;refine (exH H M X (by omega)).mono ?_;clear H M;rintro e w1⟨l,h,xs1,gW,lv1,rfl,n,v,S,tl1,T,H,M,-⟩;go_wp2_with fail;refine (exH H M X (by omega)).mono ?_;clear H M;rintro e w2⟨f,y,xs2,Qu,lv2,rfl,q,K,P,tl2,U,H,M,-⟩;go_wp2_with fail;refine (gpH H M).mono ?_;clear H M;rintro e w3⟨c,lv3,rfl,r,V,q3,H,M,-⟩;have A:¬ 9223372036854775807 < h.length+c.length:=by omega
 have B:¬ 9223372036854775807 < h.length+c.length+a.length:=by omega
 go_wp2_with fail;refine (gpH H M).mono ?_;clear H M;rintro e w4⟨i,lv4,rfl,L,W,q4,H,M,-⟩;clear A B;have c0:¬ 9223372036854775807 < h.length+c.length:=by omega
 have c1:¬ 9223372036854775807 < h.length+c.length+a.length:=by omega
 have c2:¬ 9223372036854775807 < h.length+c.length+a.length+i.length:=by omega
 have c3:¬ 9223372036854775807 < h.length+c.length+a.length+i.length+y.length:=by omega
 go_wp2_with fail;obtain⟨Y,x⟩:∃ Y:Bs,Hid (h ++ (c ++ (a ++ (i ++ y)))=Y):=⟨_,O rfl⟩;rw [show aM (h ++ (c ++ (a ++ (i ++ y))))=aM Y from by rw [← x.o] <;> (simp only [← ak];rfl)];have Q:Y.length≤10000000:=by rw [← x.o];simp only [aaO,List.length_cons,List.length_nil];omega
 refine (smH H M (t:=Y) (by omega)).mono ?_;clear H M;rintro e w5⟨S5,lv5,rfl,vS,q5,H,M⟩;go_wp2_with fail;refine (ptH H M [l.ix,f.ix] (by simp) (by omega)).mono ?_;clear H M;rintro e w6⟨xs6,XB,rfl,H,M,-⟩;go_wp2_with fail;go_ret2
 have I:=O (show binG wild E b s=acV (someP wild (l.pc ++ (c,opK k,a) :: Pcs.on i f.pc) (acJ wild (acJ wild (f.st)))) (someS wild (acJ wild (acJ wild (f.st)))) ⟨(6+k),[],0,[l.ix,f.ix],0⟩ from by
  unfold binG
  try simp only
  rw [n.o,q.o,r.o,L.o,u.o,F.o] <;> rfl)
 rw [G.o,I.o]
 refine⟨?_,_,_,_,H.o,M.o⟩
 show _=Ending.returned (.tuple #[.string (aM (aN (someP wild (l.pc ++ (c,opK k,a) :: Pcs.on i f.pc) (acJ wild (acJ wild (f.st)))))),.int .i64 (someS wild (acJ wild (acJ wild (f.st)))).id])
 have J:aN (l.pc ++ (c,opK k,a) :: Pcs.on i f.pc)=Y:=by
  simp only [aN,qZ,sgn];rw [P.o,v.o,← x.o] <;> simp only [List.nil_append,List.append_nil,List.append_assoc,List.cons_append]
 rw [someT_text,J,vS.o];rfl
end Go.Proofs.YthepmkjggfijoaaGreatDoor
