/-
  A part of the proof.
-/
import Derived.Test.YthepmkjggfijoaaGreatDoorSA
import Derived.Test.YthepmkjggfijoaaGreatDoorJ05
set_option linter.all false
set_option maxRecDepth 100000
set_option maxHeartbeats 4000000
open Go.Lib (hid)
namespace Go.Proofs.YthepmkjggfijoaaGreatDoor
open Go.RowKit Mist
attribute [local go_sem] aj aH aS aB ak
theorem plParams_any (wild:Bool)(N:Nat)(hN:N≤700000)(m:Nat)(hm:m≤6)(g:Nat)(iv:Value)(w:World)(s:abd)(xs:List NV)(nv lv:Value)(h:abH g wild iv w s xs nv lv)(hn:s.ns.length≤N) :
  Calls Tryz.prog 115 #[.pointer (some ⟨g,0,none⟩),.int .i64 (m:Int)] w (LiPost g wild iv w xs nv (acL wild m ⟨[],[],s⟩)):=by
 have H0:=hid h;have M0:=hid (abJ.refl (g:=g) (w:=w) (xs:=xs) (nv:=nv));clear h;obtain⟨j0,hj0,hy0,hy1,hy2⟩:=info_parts gN;have hg0:=H0.out.lt;have HKC:=hid (vo wild);have HKB:=hid (show ∀ z,tl (acI wild 2 z).pc≤100∧(acI wild 2 z).st.ns.length≤z.ns.length+3 from fun z=>⟨Nat.le_trans (kind_bd wild 2 z).1 (by omega),(kind_bd wild 2 z).2⟩);have Xp:=hid (abK.empty (w0:=w) H0.out rfl (aaJ _));have HH:=hid (H0.out.alloc (.cells #[] 3));have MM:=hid (M0.out.dD (o:=.cells #[] 3));clear H0 M0;go_in
 go_wp2_with fail;go_loopw [6,7,8] (fun sv l0 i wr=>∃ (k:Nat) (r:aa') (A:Option Addr) (c:Nat) (xs1:List NV) (gW lv1:Value),k≤m∧i=.int .i64 k∧sv=.string (aM (aN r.pc))∧l0=.slice A r.ix.length c∧Hid (r.ix.length=k)∧(aN r.pc).length≤k * 200∧r.st.ns.length≤N+k * 10∧Hid (acL wild (m - k) r=acL wild m ⟨[],[],s⟩)∧Hid (abK w wr xs1 (.slice A r.ix.length c) r.ix)∧Hid (abH g wild iv wr r.st xs1 gW lv1)∧Hid (abJ g w xs nv wr xs1 gW)) (fun _ _ i _=>m - (intOf i).toNat)
 case atStart=>exact⟨0,⟨[],[],s⟩,_,_,xs,nv,lv,aaL _,rfl,rfl,rfl,hid rfl,by simp [aN],(by first|(simpa using hn)|(show s.tl.ns.length≤_;omega)),hid rfl,Xp,HH,MM⟩
 case round =>
  clear Xp HH MM;obtain⟨wo,rfl⟩:∃ wo:World,wo=wr:=⟨_,rfl⟩;obtain⟨k,r,A,c,xs1,gW,lv9,hk,rfl,rfl,rfl,hix,hlen,hnl,HR,LL,H0,M0⟩:=hrel;by_cases hlt:k < m
  ·obtain⟨mm,hmm⟩:∃ mm,m - k=mm+1:=⟨m - k - 1,by omega⟩;have hmm2:m - (k+1)=mm:=by omega
   rw [hmm] at HR
   have U1:=hid hmm2;clear hmm hmm2;obtain⟨X,hX⟩:∃ X,X=aN r.pc:=⟨_,rfl⟩;rw [← hX] at hlen ⊢
   have HX9:=hid hX;clear hX;by_cases hk0:k=0
   ·subst hk0;have hnil:r.ix=[]:=List.eq_nil_of_length_eq_zero hix.out;have HNX:=hid (show acL wild (mm+1) r=acL wild mm ⟨r.pc ++ (([],1,acH r.st.nx) :: sgn [58] :: Pcs.on (acM wild (acI wild 2 r.st.tl).st) (acI wild 2 r.st.tl).pc),r.ix ++ [(acC wild (acI wild 2 r.st.tl).st).id],(acC wild (acI wild 2 r.st.tl).st).put ⟨34,acH r.st.nx,0,[(acI wild 2 r.st.tl).ix],0⟩⟩ by rw [acL];simp only [if_pos hnil]);clear hnil;go_wp2_with fail;refine (acU g wild _ _ (r.st) _ _ _ H0.out).mono ?_;rintro e w1⟨rfl,lv1,h,m⟩;have H1:=hid h;have M1:=hid (M0.out.mvp m)
    replace LL:=hid (LL.out.mv H0.out m)
    clear h m H0 M0;go_wp2_with fail;refine (plWord_any (r.st).nx _).mono ?_;rintro e w99⟨rfl,rfl⟩;have ly:=wordG_le (r.st).nx;obtain⟨y,hy⟩:∃ y,y=acH (r.st).nx:=⟨_,rfl⟩;rw [← hy] at ly HNX ⊢
    clear hy;have hs0:(r.st).tl.ns.length=r.st.ns.length:=rfl;have HON:=hid fun u=>on_text (typ_good wild 2 (r.st).tl) u
    go_wp2_with fail;refine (HKC.out g _ _ ((r.st).tl) _ _ _ H1.out (by first | omega|(simp only [acD];omega))).mono ?_;rintro e w2⟨rfl,xs2,Qu,lv2,h,m⟩;have H2:=hid h;have M2:=hid (M1.out.trans m)
    replace LL:=hid (LL.out.mw H1.out m)
    clear h m H1 M1;obtain⟨bt2,bn2⟩:=HKB.out ((r.st).tl);obtain⟨a2,ha2⟩:∃ a,a=acI wild 2 ((r.st).tl):=⟨_,rfl⟩;rw [← ha2] at H2 bt2 bn2 ⊢
    obtain⟨T2,hT2⟩:∃ T,T=aN a2.pc:=⟨_,rfl⟩;have tl2:T2.length≤100:=by rw [hT2];exact bt2
    rw [← hT2];have HA2:=hid ha2;have HT2:=hid hT2;clear ha2 hT2 bt2
    (try simp only [acD] at bn2)
    rw [← HA2.out] at HNX HON
    have ca0:¬ 9223372036854775807 < X.length+y.length:=by omega
    have ca1:¬ 9223372036854775807 < X.length+y.length+1:=by omega
    go_wp2_with fail;refine (plGap_any g wild _ _ (a2.st) _ _ _ H2.out).mono ?_;rintro e w3⟨rfl,lv3,h,m⟩;have H3:=hid h;have M3:=hid (M2.out.mvp m)
    replace LL:=hid (LL.out.mv H2.out m)
    clear h m H2 M2;have gl3:=gapG_len wild (a2.st);obtain⟨G3,hG3⟩:∃ G,G=acM wild (a2.st):=⟨_,rfl⟩;rw [← hG3] at gl3 ⊢
    have HG3:=hid hG3;clear hG3;clear ca0 ca1;rw [← HG3.out] at HNX
    have cb0:¬ 9223372036854775807 < X.length+y.length:=by omega
    have cb1:¬ 9223372036854775807 < X.length+y.length+1:=by omega
    have cb2:¬ 9223372036854775807 < X.length+y.length+1+G3.length:=by omega
    have cb3:¬ 9223372036854775807 < X.length+y.length+1+G3.length+T2.length:=by omega
    have HAPLL:=hid (LL.out.apart (n:=1) (c:=1) (aaJ _))
    replace LL:=hid (LL.out.alloc (.cells (intCells [a2.ix]).toArray 3))
    have abR:=hid (Mx w3 [a2.ix]);have HK:=hid (H3.out.alloc (.cells (intCells [a2.ix]).toArray 3));have abS:=hid (M3.out.dD (o:=.cells (intCells [a2.ix]).toArray 3));have hms:=M3.out.size;clear H3 M3;go_wp2_with fail;obtain⟨Y,hY⟩:∃ Y:Bs,Y=X ++ y ++ [58] ++ G3 ++ T2:=⟨_,rfl⟩;rw [show aM (X ++ y) ++ (⟨#[58]⟩:ByteArray) ++ aM (G3) ++ aM (T2)=aM Y from by rw [hY] <;> (simp only [← ak];rfl)];have abT:Y.length≤10000000:=by rw [hY];simp only [aaO,List.length_cons,List.length_nil];omega
    have HY:=hid hY;clear hY;refine (plPut_any g wild _ _ (acC wild (a2.st)) _ _ _ HK.out 34 y 0 _ [a2.ix] abR.out (by first | omega|(simp only [acD,acR];omega))).mono ?_;rintro e w4⟨rfl,yH,h,m⟩
    replace LL:=hid (LL.out.put HK.out h m HAPLL.out)
    have H4:=hid h;have M4:=hid (abS.out.putp (x:=(⟨34,y,0,[a2.ix],0⟩,(.slice (some ⟨w3.heap.size,0,none⟩) 1 1))) m (gw_at hms));clear h m;have LA:=hid (LL.out.alloc (.cells #[.int .i64 (abd.id (acC wild (a2.st)))] 3));have HA:=hid (H4.out.alloc (.cells #[.int .i64 (abd.id (acC wild (a2.st)))] 3));have MA:=hid (M4.out.dD (o:=(.cells #[.int .i64 (abd.id (acC wild (a2.st)))] 3)));have hms:=MA.out.size;have hrl:r.ix.length≤6:=by have:=hix.out;omega
    go_wp2_with (at_builtin;go_loud (refine wpList_append_lies _ rfl (.tmp 42) (.tmp 49) 24 rfl 0 3 j0 (.int .i64 0) 1 8 Tryz.underlying24 hj0 hy0 hy1 hy2 rfl (by decide) _ r.ix.length (intCells r.ix) rfl LA.out.row ⟨w4.heap.size,0,none⟩ 1 1 [.int .i64 (abd.id (acC wild (a2.st)))] rfl rfl (cell_one_new _ _ _) (by simp [Value.oneCell']) (by omega) (by simp only [maxLen];omega) (by omega) (aaL _) _ rfl ?_);intro gg14 cap14 Tx hown hgrow hat hlt;have L33:=hid (LA.out.grow HA.out hown hat hms);have H33:=hid (HA.out.grow LA.out hgrow (fun b hb=>aaK (aaW hg0 (LA.out.lo b hb))));have M33:=hid (MA.out.grow LA.out hgrow);clear hown hgrow hat hlt)
    clear LA HA MA hms LL H4 M4;have HTX:=hid (show Y=aN (r.pc ++ (([],1,y) :: sgn [58] :: Pcs.on G3 a2.pc)) by rw [qZ,HY.out,← HX9.out];simp only [aN,sgn];rw [HON.out,HT2.out];simp only [List.nil_append,List.append_nil,List.append_assoc,List.cons_append]);exact⟨⟨0+1,⟨r.pc ++ (([],1,y) :: sgn [58] :: Pcs.on G3 a2.pc),r.ix ++ [abd.id (acC wild (a2.st))],(acC wild (a2.st)).put ⟨34,y,0,[a2.ix],0⟩⟩,_,_,_,_,_,by omega,by go_num,congrArg Value.string (congrArg aM HTX.out),by rw [aaO];rfl,hid (by rw [aaO,hix.out];rfl),by rw [← HTX.out,HY.out];simp only [aaO,List.length_cons,List.length_nil];omega,by show (abd.put _ _).ns.length≤_;rw [put_len,acD];omega,hid (by show acL wild (m - (0+1)) _=_;rw [U1.out,← HNX.out,HR.out]),by rw [aaO];exact L33,H33,M33⟩,by simp [intOf];omega⟩
   ·have hne:r.ix ≠ []:=fun h=>hk0 (by rw [← hix.out,h];rfl)
    have HNX:=hid (show acL wild (mm+1) r=acL wild mm ⟨r.pc ++ (sgn [44] :: (acM wild r.st,1,acH (acC wild r.st).nx) :: sgn [58] :: Pcs.on (acM wild (acI wild 2 (acC wild r.st).tl).st) (acI wild 2 (acC wild r.st).tl).pc),r.ix ++ [(acC wild (acI wild 2 (acC wild r.st).tl).st).id],(acC wild (acI wild 2 (acC wild r.st).tl).st).put ⟨34,acH (acC wild r.st).nx,0,[(acI wild 2 (acC wild r.st).tl).ix],0⟩⟩ by rw [acL];simp only [if_neg hne]);have abQ:(0:Int) < (k:Int):=by omega
    clear hne hk0;go_wp2_with fail;refine (plGap_any g wild _ _ (r.st) _ _ _ H0.out).mono ?_;rintro e w1⟨rfl,lv1,h,m⟩;have H1:=hid h;have M1:=hid (M0.out.mvp m)
    replace LL:=hid (LL.out.mv H0.out m)
    clear h m H0 M0;have gl1:=gapG_len wild (r.st);obtain⟨G1,hG1⟩:∃ G,G=acM wild (r.st):=⟨_,rfl⟩;rw [← hG1] at gl1 ⊢
    have HG1:=hid hG1;clear hG1;rw [← HG1.out] at HNX
    have cg0:¬ 9223372036854775807 < 1+G1.length:=by omega
    have cg1:¬ 9223372036854775807 < X.length+(1+G1.length):=by omega
    go_wp2_with fail;obtain⟨Z,hZ⟩:∃ Z:Bs,Z=X ++ ([44] ++ G1):=⟨_,rfl⟩;rw [show (aM X ++ ((⟨#[44]⟩:ByteArray) ++ aM G1))=aM Z from by rw [hZ,← ak,← ak];rfl];have hZl:Z.length≤X.length+9:=by rw [hZ];simp only [aaO,List.length_cons,List.length_nil];omega
    have HZ:=hid hZ;clear hZ cg0 cg1;refine (acU g wild _ _ (acC wild (r.st)) _ _ _ H1.out).mono ?_;rintro e w2⟨rfl,lv2,h,m⟩;have H2:=hid h;have M2:=hid (M1.out.mvp m)
    replace LL:=hid (LL.out.mv H1.out m)
    clear h m H1 M1;go_wp2_with fail;refine (plWord_any ((acC wild r.st)).nx _).mono ?_;rintro e w99⟨rfl,rfl⟩;have ly:=wordG_le ((acC wild r.st)).nx;obtain⟨y,hy⟩:∃ y,y=acH ((acC wild r.st)).nx:=⟨_,rfl⟩;rw [← hy] at ly HNX ⊢
    clear hy;have hs0:((acC wild r.st)).tl.ns.length=r.st.ns.length:=by show (acC wild r.st).ns.length=_;rw [acD]
    have HON:=hid fun u=>on_text (typ_good wild 2 ((acC wild r.st)).tl) u
    go_wp2_with fail;refine (HKC.out g _ _ ((acC wild (r.st)).tl) _ _ _ H2.out (by first | omega|(simp only [acD];omega))).mono ?_;rintro e w3⟨rfl,Xj,FM,lv3,h,m⟩;have H3:=hid h;have M3:=hid (M2.out.trans m)
    replace LL:=hid (LL.out.mw H2.out m)
    clear h m H2 M2;obtain⟨bt3,bn3⟩:=HKB.out ((acC wild (r.st)).tl);obtain⟨a3,FK⟩:∃ a,a=acI wild 2 ((acC wild (r.st)).tl):=⟨_,rfl⟩;rw [← FK] at H3 bt3 bn3 ⊢
    obtain⟨T3,hT3⟩:∃ T,T=aN a3.pc:=⟨_,rfl⟩;have tl3:T3.length≤100:=by rw [hT3];exact bt3
    rw [← hT3];have gM:=hid FK;have HT3:=hid hT3;clear FK hT3 bt3
    (try simp only [acD] at bn3)
    rw [← gM.out] at HNX HON
    have ca0:¬ 9223372036854775807 < Z.length+y.length:=by omega
    have ca1:¬ 9223372036854775807 < Z.length+y.length+1:=by omega
    go_wp2_with fail;refine (plGap_any g wild _ _ (a3.st) _ _ _ H3.out).mono ?_;rintro e w4⟨rfl,lv4,h,m⟩;have H4:=hid h;have M4:=hid (M3.out.mvp m)
    replace LL:=hid (LL.out.mv H3.out m)
    clear h m H3 M3;have gl4:=gapG_len wild (a3.st);obtain⟨G4,hG4⟩:∃ G,G=acM wild (a3.st):=⟨_,rfl⟩;rw [← hG4] at gl4 ⊢
    have Jf:=hid hG4;clear hG4;clear ca0 ca1;rw [← Jf.out] at HNX
    have cb0:¬ 9223372036854775807 < Z.length+y.length:=by omega
    have cb1:¬ 9223372036854775807 < Z.length+y.length+1:=by omega
    have cb2:¬ 9223372036854775807 < Z.length+y.length+1+G4.length:=by omega
    have cb3:¬ 9223372036854775807 < Z.length+y.length+1+G4.length+T3.length:=by omega
    have HAPLL:=hid (LL.out.apart (n:=1) (c:=1) (aaJ _))
    replace LL:=hid (LL.out.alloc (.cells (intCells [a3.ix]).toArray 3))
    have abR:=hid (Mx w4 [a3.ix]);have HK:=hid (H4.out.alloc (.cells (intCells [a3.ix]).toArray 3));have abS:=hid (M4.out.dD (o:=.cells (intCells [a3.ix]).toArray 3));have hms:=M4.out.size;clear H4 M4;go_wp2_with fail;obtain⟨Y,hY⟩:∃ Y:Bs,Y=Z ++ y ++ [58] ++ G4 ++ T3:=⟨_,rfl⟩;rw [show aM (Z ++ y) ++ (⟨#[58]⟩:ByteArray) ++ aM (G4) ++ aM (T3)=aM Y from by rw [hY] <;> (simp only [← ak];rfl)];have abT:Y.length≤10000000:=by rw [hY];simp only [aaO,List.length_cons,List.length_nil];omega
    have HY:=hid hY;clear hY;refine (plPut_any g wild _ _ (acC wild (a3.st)) _ _ _ HK.out 34 y 0 _ [a3.ix] abR.out (by first | omega|(simp only [acD,acR];omega))).mono ?_;rintro e w5⟨rfl,Fu,h,m⟩
    replace LL:=hid (LL.out.put HK.out h m HAPLL.out)
    have H5:=hid h;have M5:=hid (abS.out.putp (x:=(⟨34,y,0,[a3.ix],0⟩,(.slice (some ⟨w4.heap.size,0,none⟩) 1 1))) m (gw_at hms));clear h m;have LA:=hid (LL.out.alloc (.cells #[.int .i64 (abd.id (acC wild (a3.st)))] 3));have HA:=hid (H5.out.alloc (.cells #[.int .i64 (abd.id (acC wild (a3.st)))] 3));have MA:=hid (M5.out.dD (o:=(.cells #[.int .i64 (abd.id (acC wild (a3.st)))] 3)));have hms:=MA.out.size;have hrl:r.ix.length≤6:=by have:=hix.out;omega
    go_wp2_with (at_builtin;go_loud (refine wpList_append_lies _ rfl (.tmp 42) (.tmp 49) 24 rfl 0 3 j0 (.int .i64 0) 1 8 Tryz.underlying24 hj0 hy0 hy1 hy2 rfl (by decide) _ r.ix.length (intCells r.ix) rfl LA.out.row ⟨w5.heap.size,0,none⟩ 1 1 [.int .i64 (abd.id (acC wild (a3.st)))] rfl rfl (cell_one_new _ _ _) (by simp [Value.oneCell']) (by omega) (by simp only [maxLen];omega) (by omega) (aaL _) _ rfl ?_);intro gg14 cap14 Tx hown hgrow hat hlt;have L33:=hid (LA.out.grow HA.out hown hat hms);have H33:=hid (HA.out.grow LA.out hgrow (fun b hb=>aaK (aaW hg0 (LA.out.lo b hb))));have M33:=hid (MA.out.grow LA.out hgrow);clear hown hgrow hat hlt)
    clear LA HA MA hms LL H5 M5;have HTX:=hid (show Y=aN (r.pc ++ (sgn [44] :: (G1,1,y) :: sgn [58] :: Pcs.on G4 a3.pc)) by rw [qZ,HY.out,HZ.out,← HX9.out];simp only [aN,sgn];rw [HON.out,HT3.out];simp only [List.nil_append,List.append_nil,List.append_assoc,List.cons_append]);exact⟨⟨k+1,⟨r.pc ++ (sgn [44] :: (G1,1,y) :: sgn [58] :: Pcs.on G4 a3.pc),r.ix ++ [abd.id (acC wild (a3.st))],(acC wild (a3.st)).put ⟨34,y,0,[a3.ix],0⟩⟩,_,_,_,_,_,by omega,by go_num,congrArg Value.string (congrArg aM HTX.out),by rw [aaO];rfl,hid (by rw [aaO,hix.out];rfl),by rw [← HTX.out,HY.out];simp only [aaO,List.length_cons,List.length_nil];omega,by show (abd.put _ _).ns.length≤_;rw [put_len,acD];omega,hid (by show acL wild (m - (k+1)) _=_;rw [U1.out,← HNX.out,HR.out]),by rw [aaO];exact L33,H33,M33⟩,by simp [intOf];omega⟩
  ·obtain rfl:k=m:=by omega
   have HRR:=hid (show acL wild k ⟨[],[],s⟩=r by rw [← HR.out,Nat.sub_self];rfl);clear HR;go_wp2_with fail;go_ret2
   rw [HRR.out];exact⟨A,c,xs1,gW,lv9,rfl,LL.out,H0.out,M0.out⟩
theorem plNumber_any (wild:Bool)(n:Int)(hn0:-1000≤n)(hn1:n≤1000)(g:Nat)(iv:Value)(w:World)(s:abd)(xs:List NV)(nv lv:Value)(h:abH g wild iv w s xs nv lv)(hn:s.ns.length≤900000) :
  Calls Tryz.prog 112 #[.pointer (some ⟨g,0,none⟩),.int .i64 n] w (GPost g wild iv w xs nv (acT n s)):=by
 have H0:=hid h;have M0:=hid (abJ.refl (g:=g) (w:=w) (xs:=xs) (nv:=nv));clear h;go_in
 go_wp2_with fail;refine (plItoa_any (n) (by omega) (by omega) g wild _ _ (s) _ _ _ H0.out).mono ?_;rintro e w1⟨rfl,hb1⟩;have H1:=hid (H0.out.below hb1);have M1:=hid (M0.out.aL hb1);clear hb1 H0 M0;go_wp2_with fail;refine (plPut_any g wild _ _ (s) _ _ _ H1.out 1 [] n _ [] (cB.none_ _) (by first | omega|(simp only [acD,acR];omega))).mono ?_;rintro e w2⟨rfl,Qu,h,m⟩;have H2:=hid h;have M2:=hid (M1.out.putp (x:=(⟨1,[],n,[],0⟩,(.slice none 0 0))) m gw_none);clear h m;go_wp2_with fail;go_ret2
 refine⟨?_,_,_,_,H2.out,M2.out⟩
 show _=Ending.returned (.tuple #[.string (aM (aN (numPc n))),.int .i64 (s).id])
 rw [numPc_text];rfl
def Kp (w:World)(xs:List NV)(w':World)(xs':List NV):Prop:=∀ (w1:World) (v:Value) (ks:List Int),abK w1 w xs v ks→abK w1 w' xs' v ks
theorem kp {w w' w1:World}{xs xs':List NV}{v:Value}{ks:List Int}(R:Hid (Kp w xs w' xs'))(L:Hid (abK w1 w xs v ks)):Hid (abK w1 w' xs' v ks):=hid (R.out _ _ _ L.out)
theorem on_ne {I:Pcs}(h:I ≠ [])(g:Bs):aN (Pcs.on g I)=g ++ aN I:=by
 cases I with
 | nil=>exact absurd rfl h
 | cons x I =>
  obtain⟨a,k,t⟩:=x
  show (g ++ a) ++ (t ++ aN I)=g ++ (a ++ (t ++ aN I))
  rw [List.append_assoc]
theorem num_ne (n:Int):numPc n ≠ []:=by unfold numPc;split <;> simp
structure aci (wild:Bool) (E:abd→abb) (N:Nat) (dv:Value):Prop where
 out:∀ (g:Nat) (iv:Value) (w:World) (s:abd) (xs:List NV) (nv lv:Value),abH g wild iv w s xs nv lv→s.ns.length≤N →
  Calls Tryz.prog 117 #[.pointer (some ⟨g,0,none⟩),dv] w (GPost g wild iv w xs nv (E s))
 bd:abL E 100000 10000
 good:∀ s,abe (E s).pc
def LsC (wild:Bool)(E:abd→abb)(N:Nat)(dv:Value):Prop:=∀ (m:Nat),m≤4→∀ (g:Nat) (iv:Value) (w:World) (s:abd) (xs:List NV) (nv lv:Value),abH g wild iv w s xs nv lv→s.ns.length≤N →
 Calls Tryz.prog 176 #[.pointer (some ⟨g,0,none⟩),.int .i64 (m:Int),dv] w (LiPost g wild iv w xs nv (acS wild E m ⟨[],[],s⟩))
theorem bd_more {E:abd→abb}{L C L1 C1:Nat}(h:abL E L C)(h1:L≤L1)(h2:C≤C1):abL E L1 C1:=⟨fun s=>Nat.le_trans (h.text s) h1,fun s=>Nat.le_trans (h.nodes s) (Nat.add_le_add_left h2 _)⟩
theorem list_le (wild:Bool){E:abd→abb}{L C:Nat}(h:abL E L C)(m:Nat)(hm:m≤4)(s:abd):tl (acS wild E m ⟨[],[],s⟩).pc≤4 * (L+9)∧(acS wild E m ⟨[],[],s⟩).st.ns.length≤s.ns.length+4 * C∧(acS wild E m ⟨[],[],s⟩).ix.length=m:=by
 obtain⟨h1,h2,h3⟩:=list_bd wild h m ⟨[],[],s⟩;have m1:m * (L+9)≤4 * (L+9):=Nat.mul_le_mul_right _ hm;have m2:m * C≤4 * C:=Nat.mul_le_mul_right _ hm;rw [tl_nil] at h1
 have h2:(acS wild E m ⟨[],[],s⟩).st.ns.length≤s.ns.length+m * C:=h2;have h3:(acS wild E m ⟨[],[],s⟩).ix.length=0+m:=h3;exact⟨by omega,by omega,by omega⟩
section
variable {g N:Nat} {wild:Bool} {iv nv0 nv lv dv:Value} {w0 w:World} {s:abd} {xs0 xs:List NV} {E:abd→abb} (H:Hid (abH g wild iv w s xs nv lv)) (M:Hid (abJ g w0 xs0 nv0 w xs nv))
include H M
theorem nxH:Calls Tryz.prog 110 #[.pointer (some ⟨g,0,none⟩)] w fun e w'=>∃ lv',e=.returned (.int .i64 s.nx)∧s.tl.ns.length=s.ns.length∧Hid (abH g wild iv w' s.tl xs nv lv')∧Hid (abJ g w0 xs0 nv0 w' xs nv)∧Hid (Kp w xs w' xs):=by
 refine (acU g wild iv _ s _ _ _ H.out).mono ?_;rintro e w' ⟨rfl,lv',h,m⟩;exact⟨lv',rfl,rfl,hid h,hid (M.out.mvp m),hid fun w1 v ks L=>L.mv H.out m⟩
theorem gpH:Calls Tryz.prog 113 #[.pointer (some ⟨g,0,none⟩)] w fun e w'=>∃ G lv',e=.returned (.string (aM G))∧Hid (acM wild s=G)∧G.length≤8∧(acC wild s).ns.length=s.ns.length∧Hid (abH g wild iv w' (acC wild s) xs nv lv')∧Hid (abJ g w0 xs0 nv0 w' xs nv)∧Hid (Kp w xs w' xs):=by
 refine (plGap_any g wild iv _ s _ _ _ H.out).mono ?_;rintro e w' ⟨rfl,lv',h,m⟩;exact⟨_,lv',rfl,hid rfl,gapG_len wild s,by rw [acD],hid h,hid (M.out.mvp m),hid fun w1 v ks L=>L.mv H.out m⟩
theorem smH {t:Bs}(ht:t.length≤10000000):Calls Tryz.prog 195 #[.pointer (some ⟨g,0,none⟩),.string (aM t)] w fun e w'=>∃ S lv',e=.returned (.string (aM S))∧Hid (someT wild t s=S)∧(someS wild s).ns.length=s.ns.length∧Hid (abH g wild iv w' (someS wild s) xs nv lv')∧Hid (abJ g w0 xs0 nv0 w' xs nv):=by
 refine (plSome_any g wild iv _ s _ _ _ H.out t (by omega)).mono ?_;rintro e w' ⟨rfl,lv',h,m⟩;exact⟨_,lv',rfl,hid rfl,by rw [acR],hid h,hid (M.out.mvp m)⟩
theorem exH (X:Hid (aci wild E N dv))(hn:s.ns.length≤N):Calls Tryz.prog 117 #[.pointer (some ⟨g,0,none⟩),dv] w fun e w'=>∃ a T xs' eO lv',e=.returned (.tuple #[.string (aM T),.int .i64 a.ix])∧Hid (E s=a)∧Hid (aN a.pc=T)∧Hid (∀ u,aN (Pcs.on u a.pc)=u ++ T)∧T.length≤100000∧a.st.ns.length≤s.ns.length+10000∧Hid (abH g wild iv w' a.st xs' eO lv')∧Hid (abJ g w0 xs0 nv0 w' xs' eO)∧Hid (Kp w xs w' xs'):=by
 refine (X.out.out g iv _ s _ _ _ H.out hn).mono ?_;rintro e w' ⟨rfl,xs',eO,lv',h,m⟩;exact⟨_,_,xs',eO,lv',rfl,hid rfl,hid rfl,hid (on_text (X.out.good s)),X.out.bd.text s,X.out.bd.nodes s,hid h,hid (M.out.trans m),hid fun w1 v ks L=>L.mw H.out m⟩
theorem lsH (X:Hid (aci wild E N dv)){N2:Nat}{dv2:Value}(ach:Hid (LsC wild E N2 dv2)){m:Nat}(hm:m≤4)(hn:s.ns.length≤N2):Calls Tryz.prog 176 #[.pointer (some ⟨g,0,none⟩),.int .i64 (m:Int),dv2] w fun e w'=>∃ r T A c xs' eO lv',e=.returned (.tuple #[.string (aM T),.slice A r.ix.length c])∧Hid (acS wild E m ⟨[],[],s⟩=r)∧Hid (aN r.pc=T)∧Hid (m ≠ 0→∀ u,aN (Pcs.on u r.pc)=u ++ T)∧Hid (m=0→r.pc=[])∧T.length≤500000∧r.st.ns.length≤s.ns.length+40000∧Hid (abK w0 w' xs' (.slice A r.ix.length c) r.ix)∧Hid (abH g wild iv w' r.st xs' eO lv')∧Hid (abJ g w0 xs0 nv0 w' xs' eO)∧Hid (Kp w xs w' xs'):=by
 refine (ach.out m hm g iv _ s _ _ _ H.out hn).mono ?_;rintro e w' ⟨A,c,xs',eO,lv',rfl,l,h,k⟩;obtain⟨b1,b2,b3⟩:=list_le wild X.out.bd m hm s;have hg:=list_good wild X.out.good m ⟨[],[],s⟩ (li0 _);exact⟨_,_,A,c,xs',eO,lv',rfl,hid rfl,hid rfl,hid fun h0=>on_text (hg.2 fun h=>h0 (by rw [← b3,h];rfl)),hid fun h0=>by rw [h0];rfl,Nat.le_trans b1 (by omega),by omega,hid ⟨l.row,fun b hb=>Nat.le_trans M.out.size (l.lo b hb),l.far⟩,hid h,hid (M.out.trans k),hid fun w1 v ks L=>L.mw H.out k⟩
theorem ptH {K:Nat}{x:Bs}{n:Int}(ks:List Int)(hk:ks.length≤1000)(hn:s.ns.length≤1000000):Calls Tryz.prog 114 #[.pointer (some ⟨g,0,none⟩),.agg #[.int .u8 K,.string (aM x),.int .i64 n,.slice (some ⟨w.heap.size,0,none⟩) ks.length ks.length,.int .i64 0]] (w.alloc (.cells (intCells ks).toArray 3)) fun e w'=>∃ xs' eO,e=.returned (.int .i64 s.id)∧Hid (abH g wild iv w' (s.put ⟨K,x,n,ks,0⟩) xs' eO lv)∧Hid (abJ g w0 xs0 nv0 w' xs' eO)∧Hid (Kp w xs w' xs'):=by
 have hA:=H.out.alloc (.cells (intCells ks).toArray 3);refine (plPut_any g wild iv _ s _ _ _ hA K x n _ ks (Mx w ks hk) hn).mono ?_;rintro e w' ⟨rfl,eO,h,m⟩;exact⟨_,eO,rfl,hid h,hid (M.out.dD.putp m (gw_at M.out.size)),hid fun w1 v ks2 L=>(L.alloc _).put hA h m (L.apart (aaJ _))⟩
theorem ptN {K:Nat}{x:Bs}{n:Int}(hn:s.ns.length≤1000000):Calls Tryz.prog 114 #[.pointer (some ⟨g,0,none⟩),.agg #[.int .u8 K,.string (aM x),.int .i64 n,.slice none 0 0,.int .i64 0]] w fun e w'=>∃ xs' eO,e=.returned (.int .i64 s.id)∧Hid (abH g wild iv w' (s.put ⟨K,x,n,[],0⟩) xs' eO lv)∧Hid (abJ g w0 xs0 nv0 w' xs' eO)∧Hid (Kp w xs w' xs'):=by
 refine (plPut_any g wild iv _ s _ _ _ H.out K x n _ [] (cB.none_ _) hn).mono ?_;rintro e w' ⟨rfl,eO,h,m⟩;exact⟨_,eO,rfl,hid h,hid (M.out.putp m gw_none),hid fun w1 v ks2 L=>L.put H.out h m (.inl rfl)⟩
theorem ptL {K:Nat}{x:Bs}{n:Int}{A:Option Addr}{c k:Nat}{ks:List Int}(L:Hid (abK w0 w xs (.slice A k c) ks))(hn:s.ns.length≤1000000):Calls Tryz.prog 114 #[.pointer (some ⟨g,0,none⟩),.agg #[.int .u8 K,.string (aM x),.int .i64 n,.slice A k c,.int .i64 0]] w fun e w'=>∃ xs' eO,e=.returned (.int .i64 s.id)∧Hid (abH g wild iv w' (s.put ⟨K,x,n,ks,0⟩) xs' eO lv)∧Hid (abJ g w0 xs0 nv0 w' xs' eO)∧Hid (∀ (w1:World) (v:Value) (js:List Int),(∀ b,v.ownBlock=some b→b < w0.heap.size)→abK w1 w xs v js→abK w1 w' xs' v js):=by
 refine (plPut_any g wild iv _ s _ _ _ H.out K x n _ ks L.out.row hn).mono ?_;rintro e w' ⟨rfl,eO,h,m⟩
 refine⟨_,eO,rfl,hid h,hid (M.out.putp m L.out.lo),hid fun w1 v js hv Q=>Q.put H.out h m ?_⟩
 rcases h9:(Value.slice A k c).ownBlock with _ | b
 ·exact .inl rfl
 ·right
  intro e;have h1:=L.out.lo b h9;have h2:=hv b e.symm;omega
theorem itH {n:Int}(h0:-1000000≤n)(h1:n≤1000000):Calls Tryz.prog 77 #[.int .i64 n] w fun e w'=>∃ U,e=.returned (.string (aM U))∧Hid (Go.Lib.itoa n=U)∧Hid (abH g wild iv w' s xs nv lv)∧Hid (abJ g w0 xs0 nv0 w' xs nv)∧Hid (Kp w xs w' xs):=by
 refine (plItoa_any n h0 h1 g wild iv _ s _ _ _ H.out).mono ?_;rintro e w' ⟨rfl,hb⟩;exact⟨_,rfl,hid rfl,hid (H.out.below hb),hid (M.out.aL hb),hid fun w1 v ks L=>L.below hb⟩
end
theorem wdH (b:Nat)(w:World):Calls Tryz.prog 111 #[.int .i64 (b:Int)] w fun e w'=>∃ x,e=.returned (.string (aM x))∧Hid (acH b=x)∧x.length≤4∧w'=w:=by
 refine (plWord_any b w).mono ?_;rintro e w' ⟨rfl,rfl⟩;exact⟨_,rfl,hid rfl,wordG_le b,rfl⟩
theorem pl_not {wild:Bool}{d N:Nat}{E:abd→abb}(hN:N≤900000)(hd:d≤100)(X:Hid (aci wild E (N+50000) (.int .i64 (d:Int))))(b:Nat)(hb:b < 75)(hp:b % 2=0){g:Nat}{iv:Value}{w:World}{s:abd}{xs:List NV}{nv lv:Value}(H:Hid (abH g wild iv w s xs nv lv))(hn:s.ns.length≤N) :
  Calls Tryz.prog 174 #[.pointer (some ⟨g,0,none⟩),.int .i64 (b:Int),.int .i64 ((d:Int)+1)] w (GPost g wild iv w xs nv (opG wild E b s)):=by
 have M:=hid (abJ.refl (g:=g) (w:=w) (xs:=xs) (nv:=nv));have zd:IntKind.i64.wrap ((d:Int)+1 - 1)=(d:Int):=by rw [Int.add_sub_cancel];exact IntWalk.i64_in _ ⟨by omega,by omega⟩
 have z75:(b:Int) < 75:=by omega
 have hm2:Int.tmod (b:Int) 2=0:=by rw [Int.tmod_eq_emod_of_nonneg (by omega)];omega
 have HB:=hid (show opG wild E b s=notG wild E b s by unfold opG;rw [if_pos hb]);have HP:=hid hp;clear hp;go_in
 go_wp2_with fail;refine (exH H M X (by omega)).mono ?_;clear H M;rintro e w1⟨a1,T1,xs1,gW,lv1,rfl,HA1,HT1,acj,tl1,bn1,H,M,-⟩;go_wp2_with fail;refine (gpH H M).mono ?_;clear H M;rintro e w2⟨G2,lv2,rfl,HG2,gl2,q2,H,M,-⟩;have c0:¬ 9223372036854775807 < 3+G2.length:=by omega
 have c1:¬ 9223372036854775807 < 3+G2.length+T1.length:=by omega
 go_wp2_with fail;obtain⟨Y,HY⟩:∃ Y:Bs,Hid ([110,111,116] ++ G2 ++ T1=Y):=⟨_,hid rfl⟩;rw [show (⟨#[110,111,116]⟩:ByteArray) ++ aM (G2) ++ aM (T1)=aM Y from by rw [← HY.out] <;> (simp only [← ak];rfl)];have abT:Y.length≤10000000:=by rw [← HY.out];simp only [aaO,List.length_cons,List.length_nil];omega
 refine (smH H M (t:=Y) (by omega)).mono ?_;clear H M;rintro e w3⟨S3,lv3,rfl,U6,q3,H,M⟩;go_wp2_with fail;refine (ptH H M [a1.ix] (by simp) (by omega)).mono ?_;clear H M;rintro e w4⟨xs4,yH,rfl,H,M,-⟩;go_wp2_with fail;go_ret2
 have HF:=hid (show notG wild E b s=acP (someP wild (([],3,[110,111,116]) :: Pcs.on G2 a1.pc) (acC wild (a1.st))) (someS wild (acC wild (a1.st))) ⟨5,[],0,[a1.ix],0⟩ from by
  unfold notG
  try simp only
  rw [HA1.out,HG2.out,if_pos HP.out,if_pos HP.out] <;> rfl)
 rw [HB.out,HF.out]
 refine⟨?_,_,_,_,H.out,M.out⟩
 show _=Ending.returned (.tuple #[.string (aM (aN (someP wild (([],3,[110,111,116]) :: Pcs.on G2 a1.pc) (acC wild (a1.st))))),.int .i64 (someS wild (acC wild (a1.st))).id])
 have HI:aN (([],3,[110,111,116]) :: Pcs.on G2 a1.pc)=Y:=by
  simp only [aN,qZ,sgn];rw [acj.out,← HY.out] <;> simp only [List.nil_append,List.append_nil,List.append_assoc,List.cons_append]
 rw [someT_text,HI,U6.out];rfl
theorem pl_neg {wild:Bool}{d N:Nat}{E:abd→abb}(hN:N≤900000)(hd:d≤100)(X:Hid (aci wild E (N+50000) (.int .i64 (d:Int))))(b:Nat)(hb:b < 75)(hp:¬ b % 2=0){g:Nat}{iv:Value}{w:World}{s:abd}{xs:List NV}{nv lv:Value}(H:Hid (abH g wild iv w s xs nv lv))(hn:s.ns.length≤N) :
  Calls Tryz.prog 174 #[.pointer (some ⟨g,0,none⟩),.int .i64 (b:Int),.int .i64 ((d:Int)+1)] w (GPost g wild iv w xs nv (opG wild E b s)):=by
 have M:=hid (abJ.refl (g:=g) (w:=w) (xs:=xs) (nv:=nv));have zd:IntKind.i64.wrap ((d:Int)+1 - 1)=(d:Int):=by rw [Int.add_sub_cancel];exact IntWalk.i64_in _ ⟨by omega,by omega⟩
 have z75:(b:Int) < 75:=by omega
 have hm2:Int.tmod (b:Int) 2=1:=by rw [Int.tmod_eq_emod_of_nonneg (by omega)];omega
 have HB:=hid (show opG wild E b s=notG wild E b s by unfold opG;rw [if_pos hb]);have HP:=hid hp;clear hp;go_in
 go_wp2_with fail;refine (exH H M X (by omega)).mono ?_;clear H M;rintro e w1⟨a1,T1,xs1,gW,lv1,rfl,HA1,HT1,acj,tl1,bn1,H,M,-⟩;go_wp2_with fail;refine (gpH H M).mono ?_;clear H M;rintro e w2⟨G2,lv2,rfl,HG2,gl2,q2,H,M,-⟩;have c0:¬ 9223372036854775807 < 1+G2.length:=by omega
 have c1:¬ 9223372036854775807 < 1+G2.length+T1.length:=by omega
 go_wp2_with fail;obtain⟨Y,HY⟩:∃ Y:Bs,Hid ([45] ++ G2 ++ T1=Y):=⟨_,hid rfl⟩;rw [show (⟨#[45]⟩:ByteArray) ++ aM (G2) ++ aM (T1)=aM Y from by rw [← HY.out] <;> (simp only [← ak];rfl)];have abT:Y.length≤10000000:=by rw [← HY.out];simp only [aaO,List.length_cons,List.length_nil];omega
 refine (smH H M (t:=Y) (by omega)).mono ?_;clear H M;rintro e w3⟨S3,lv3,rfl,U6,q3,H,M⟩;go_wp2_with fail;refine (ptH H M [a1.ix] (by simp) (by omega)).mono ?_;clear H M;rintro e w4⟨xs4,yH,rfl,H,M,-⟩;go_wp2_with fail;go_ret2
 have HF:=hid (show notG wild E b s=acP (someP wild (sgn [45] :: Pcs.on G2 a1.pc) (acC wild (a1.st))) (someS wild (acC wild (a1.st))) ⟨4,[],0,[a1.ix],0⟩ from by
  unfold notG
  try simp only
  rw [HA1.out,HG2.out,if_neg HP.out,if_neg HP.out] <;> rfl)
 rw [HB.out,HF.out]
 refine⟨?_,_,_,_,H.out,M.out⟩
 show _=Ending.returned (.tuple #[.string (aM (aN (someP wild (sgn [45] :: Pcs.on G2 a1.pc) (acC wild (a1.st))))),.int .i64 (someS wild (acC wild (a1.st))).id])
 have HI:aN (sgn [45] :: Pcs.on G2 a1.pc)=Y:=by
  simp only [aN,qZ,sgn];rw [acj.out,← HY.out] <;> simp only [List.nil_append,List.append_nil,List.append_assoc,List.cons_append]
 rw [someT_text,HI,U6.out];rfl
theorem run_ops (r:Nat)(h:r < 13)(w:World):Sem.run Tryz.prog (Instr.index 92 (.agg #[.string ⟨#[43]⟩,.string ⟨#[45]⟩,.string ⟨#[42]⟩,.string ⟨#[47]⟩,.string ⟨#[37]⟩,.string ⟨#[61,61]⟩,.string ⟨#[33,61]⟩,.string ⟨#[60]⟩,.string ⟨#[60,61]⟩,.string ⟨#[62]⟩,.string ⟨#[62,61]⟩,.string ⟨#[97,110,100]⟩,.string ⟨#[111,114]⟩]) (.int .i64 r)) w=.ok (.string (aM (sg opsG r))) w:=by
 obtain rfl | rfl | rfl | rfl | rfl | rfl | rfl | rfl | rfl | rfl | rfl | rfl | rfl:r=0∨r=1∨r=2∨r=3∨r=4∨r=5∨r=6∨r=7∨r=8∨r=9∨r=10∨r=11∨r=12:=by omega
 all_goals kernel_rfl
theorem pl_bin {wild:Bool}{d N:Nat}{E:abd→abb}(hN:N≤900000)(hd:d≤100)(X:Hid (aci wild E (N+50000) (.int .i64 (d:Int))))(b:Nat)(hb:¬ b < 75)(hb2:b < 150){g:Nat}{iv:Value}{w:World}{s:abd}{xs:List NV}{nv lv:Value}(H:Hid (abH g wild iv w s xs nv lv))(hn:s.ns.length≤N) :
  Calls Tryz.prog 174 #[.pointer (some ⟨g,0,none⟩),.int .i64 (b:Int),.int .i64 ((d:Int)+1)] w (GPost g wild iv w xs nv (opG wild E b s)):=by
 have M:=hid (abJ.refl (g:=g) (w:=w) (xs:=xs) (nv:=nv));have zd:IntKind.i64.wrap ((d:Int)+1 - 1)=(d:Int):=by rw [Int.add_sub_cancel];exact IntWalk.i64_in _ ⟨by omega,by omega⟩
 have z75:¬ (b:Int) < 75:=by omega
 obtain⟨k,hk⟩:∃ k,k=b % 13:=⟨_,rfl⟩;have hk13:k < 13:=by omega
 have hm2:Int.tmod (b:Int) 13=(k:Int):=by rw [Int.tmod_eq_emod_of_nonneg (by omega),hk];omega
 have HB:=hid (show opG wild E b s=binG wild E b s by unfold opG;rw [if_neg hb]);have HKK:=hid hk.symm;have hrun0:=run_ops k hk13;have lOP:=opG_le k;obtain⟨abU,Fx⟩:∃ abU,Hid (sg opsG k=abU):=⟨_,hid rfl⟩;rw [Fx.out] at hrun0 lOP
 have zk0:(0:Int)≤(k:Int):=by omega
 have zk1:(k:Int) < 13:=by omega
 have abV:IntKind.u8.wrap (k:Int)=(k:Int):=IntWalk.u8_in _ (by omega);have zv:IntKind.u8.wrap (6+(k:Int))=((6+k:Nat):Int):=by rw [IntWalk.u8_in _ (by omega)];omega
 clear hk;go_in
 go_wp2_with fail;refine (exH H M X (by omega)).mono ?_;clear H M;rintro e w1⟨a1,T1,xs1,gW,lv1,rfl,HA1,HT1,acj,tl1,bn1,H,M,-⟩;go_wp2_with fail;refine (exH H M X (by omega)).mono ?_;clear H M;rintro e w2⟨a2,T2,xs2,Qu,lv2,rfl,HA2,HT2,O2,tl2,bn2,H,M,-⟩;go_wp2_with fail;refine (gpH H M).mono ?_;clear H M;rintro e w3⟨G3,lv3,rfl,HG3,gl3,q3,H,M,-⟩;have cx0:¬ 9223372036854775807 < T1.length+G3.length:=by omega
 have cx1:¬ 9223372036854775807 < T1.length+G3.length+abU.length:=by omega
 go_wp2_with fail;refine (gpH H M).mono ?_;clear H M;rintro e w4⟨G4,lv4,rfl,Jf,gl4,q4,H,M,-⟩;clear cx0 cx1;have c0:¬ 9223372036854775807 < T1.length+G3.length:=by omega
 have c1:¬ 9223372036854775807 < T1.length+G3.length+abU.length:=by omega
 have c2:¬ 9223372036854775807 < T1.length+G3.length+abU.length+G4.length:=by omega
 have c3:¬ 9223372036854775807 < T1.length+G3.length+abU.length+G4.length+T2.length:=by omega
 go_wp2_with fail;obtain⟨Y,HY⟩:∃ Y:Bs,Hid (T1 ++ (G3 ++ (abU ++ (G4 ++ T2)))=Y):=⟨_,hid rfl⟩;rw [show aM (T1 ++ (G3 ++ (abU ++ (G4 ++ T2))))=aM Y from by rw [← HY.out] <;> (simp only [← ak];rfl)];have abT:Y.length≤10000000:=by rw [← HY.out];simp only [aaO,List.length_cons,List.length_nil];omega
 refine (smH H M (t:=Y) (by omega)).mono ?_;clear H M;rintro e w5⟨S5,lv5,rfl,vS,q5,H,M⟩;go_wp2_with fail;refine (ptH H M [a1.ix,a2.ix] (by simp) (by omega)).mono ?_;clear H M;rintro e w6⟨xs6,XB,rfl,H,M,-⟩;go_wp2_with fail;go_ret2
 have HF:=hid (show binG wild E b s=acP (someP wild (a1.pc ++ (G3,opK k,abU) :: Pcs.on G4 a2.pc) (acC wild (acC wild (a2.st)))) (someS wild (acC wild (acC wild (a2.st)))) ⟨(6+k),[],0,[a1.ix,a2.ix],0⟩ from by
  unfold binG
  try simp only
  rw [HA1.out,HA2.out,HG3.out,Jf.out,HKK.out,Fx.out] <;> rfl)
 rw [HB.out,HF.out]
 refine⟨?_,_,_,_,H.out,M.out⟩
 show _=Ending.returned (.tuple #[.string (aM (aN (someP wild (a1.pc ++ (G3,opK k,abU) :: Pcs.on G4 a2.pc) (acC wild (acC wild (a2.st)))))),.int .i64 (someS wild (acC wild (acC wild (a2.st)))).id])
 have HI:aN (a1.pc ++ (G3,opK k,abU) :: Pcs.on G4 a2.pc)=Y:=by
  simp only [aN,qZ,sgn];rw [O2.out,HT1.out,← HY.out] <;> simp only [List.nil_append,List.append_nil,List.append_assoc,List.cons_append]
 rw [someT_text,HI,vS.out];rfl
end Go.Proofs.YthepmkjggfijoaaGreatDoor
