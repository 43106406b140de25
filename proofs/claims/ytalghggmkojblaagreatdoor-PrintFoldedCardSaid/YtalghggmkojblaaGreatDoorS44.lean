/-
  A part of the proof.
-/
import Derived.Test.YtalghggmkojblaaGreatDoorS43
set_option linter.all false
set_option maxRecDepth 100000
set_option maxHeartbeats 4000000
namespace Go.Proofs.YtalghggmkojblaaGreatDoor
open Go.RowKit Mist
attribute [local go_sem] ak aN aV aF aj
theorem Pq (s:Gs)(n:Nd):(s.put n).ns.length=s.ns.length+1:=amQ
theorem agY (wild:Bool)(d N:Nat)(hN:N≤900000)(hE:EC wild d (N+50000))(hL:Lb d≤100000)(hC:Cb d≤10000)(b:Nat)(hb:b % 7=6)(g:Nat)(iv:Value)(w:World)(s:Gs)(xs:List NV)(nv lv:Value)(h:PL g wild iv w s xs nv lv)(hn:s.ns.length≤N) :
  Calls Tryz.prog 61 #[.pointer (some ⟨g,0,none⟩),.int .i64 (b:Int),.int .i64 ((d:Int)+1)] w (mF g wild iv w xs nv (jd wild (dx wild d) b s)):=by
 have I:=O h;have U:=O (Gw.refl (g:=g) (w:=w) (xs:=xs) (nv:=nv));clear h;have BE:=O (l7 wild d);have HEC:=O hE;have hdl:=EL d;have zd:IntKind.i64.wrap ((d:Int)+1 - 1)=(d:Int):=by rw [Int.add_sub_cancel];exact IntWalk.i64_in _ ⟨by omega,by omega⟩
 clear hE;have Xr:Int.tmod (b:Int) 7=6:=by rw [Int.tmod_eq_emod_of_nonneg (by omega)];omega
 have HB:=O (show jd wild (dx wild d) b s=PG wild (dx wild d) (dD s.nx) b s.tl by unfold jd;simp only;rw [if_neg (by omega),if_neg (by omega),if_neg (by omega),if_neg (by omega),if_neg (by omega),if_neg (by omega)]);obtain⟨q,hq⟩:∃ q,q=b % 3:=⟨_,rfl⟩;have zq:Int.tmod (b:Int) 3=(q:Int):=by rw [Int.tmod_eq_emod_of_nonneg (by omega),hq];omega
 obtain⟨m,hm⟩:∃ m,m=1+q:=⟨_,rfl⟩;have zm:IntKind.i64.wrap (1+(q:Int))=(m:Int):=by rw [IntWalk.i64_in _ (by omega)];omega
 have hm3:m≤3:=by omega
 have HMB:=O (show m=1+b % 3 by rw [hm,hq]);clear hm hq;obtain⟨j0,hj0,hy0,hy1,hy2⟩:=info_parts jq;have hg0:=I.o.lt;have lx:=kF s.nx;obtain⟨x,hx⟩:∃ x,x=dD s.nx:=⟨_,rfl⟩;rw [← hx] at lx HB
 have HX:=O hx;clear hb;have hsn:s.tl.ns.length=s.ns.length:=rfl;go_in
 go_wp2_with fail;refine (fD g wild _ _ (s) _ _ _ I.o).mono ?_;rintro e w1⟨rfl,oH,h,m⟩;have J:=O h;have P:=O (U.o.IZ m);clear h m I U;go_wp2_with fail;refine (jk s.nx _).mono ?_;rintro e w9⟨rfl,rfl⟩;rw [← hx];clear hx;have aj7:=P.o.size;have Qq:=O (LG.empty (w0:=w) J.o rfl aj7);have HH:=O (J.o.alloc (.cells #[] 3));have MM:=O (P.o.gT (o:=.cells #[] 3));clear J P;go_wp2_with fail;go_loopw [29,30,31] (fun sv l0 i wr=>∃ (k:Nat) (r:Gl) (A:Option Addr) (c:Nat) (xs1:List NV) (ji oH:Value),k≤m∧i=.int .i64 k∧sv=.string (aG (ah r.pc))∧l0=.slice A r.ix.length c∧Hid (r.ix.length=k)∧(ah r.pc).length≤k * 100020∧r.st.ns.length≤N+k * 10001∧Hid (jw wild (dx wild d) (m - k) r=jw wild (dx wild d) m ⟨[],[],s.tl⟩)∧Hid (LG w wr xs1 (.slice A r.ix.length c) r.ix)∧Hid (PL g wild iv wr r.st xs1 ji oH)∧Hid (Gw g w xs nv wr xs1 ji)) (fun _ _ i _=>m - (intOf i).toNat)
 case atStart=>exact⟨0,⟨[],[],s.tl⟩,_,_,xs,nv,oH,amN _,rfl,rfl,rfl,O rfl,by simp [ah],(by first|(simpa using hn)|(show s.tl.ns.length≤_;omega)),O rfl,Qq,HH,MM⟩
 case round =>
  clear Qq HH MM;obtain⟨wo,rfl⟩:∃ wo:World,wo=wr:=⟨_,rfl⟩;obtain⟨k,r,A,c,xs1,ji,lv9,hk,rfl,rfl,rfl,L,hlen,hnl,HR,j,I,U⟩:=hrel;by_cases W:k < m
  ·obtain⟨mm,hmm⟩:∃ mm,m - k=mm+1:=⟨m - k - 1,by omega⟩;have Oq:m - (k+1)=mm:=by omega
   rw [hmm] at HR
   have xu:=O Oq;clear hmm Oq;obtain⟨X,hX⟩:∃ X,X=ah r.pc:=⟨_,rfl⟩;rw [← hX] at hlen ⊢
   have HX9:=O hX;clear hX;by_cases hk0:k=0
   ·subst hk0;have hnil:r.ix=[]:=List.eq_nil_of_length_eq_zero L.o;have xK:=O (show jw wild (dx wild d) (mm+1) r=jw wild (dx wild d) mm ⟨r.pc ++ (([],1,dD r.st.nx) :: gu [58] :: (dx wild d r.st.tl).pc),r.ix ++ [(dx wild d r.st.tl).st.id],(dx wild d r.st.tl).st.put ⟨25,dD r.st.nx,0,[(dx wild d r.st.tl).ix],0⟩⟩ by rw [jw];simp only [if_pos hnil]);clear hnil;go_wp2_with fail;refine (fD g wild _ _ (r.st) _ _ _ I.o).mono ?_;rintro e w1⟨rfl,oH,h,m⟩;have J:=O h;have P:=O (U.o.IZ m)
    replace j:=O (j.o.mv I.o m)
    clear h m I U;go_wp2_with fail;refine (jk (r.st).nx _).mono ?_;rintro e w99⟨rfl,rfl⟩;have ly:=kF (r.st).nx;obtain⟨y,hy⟩:∃ y,y=dD (r.st).nx:=⟨_,rfl⟩;rw [← hy] at ly xK ⊢
    clear hy;have hs0:(r.st).tl.ns.length=r.st.ns.length:=rfl;go_wp2_with fail;refine (HEC.o g _ _ ((r.st).tl) _ _ _ J.o (by first | omega|(simp only [aO,eH];omega))).mono ?_;rintro e w2⟨rfl,xs2,Cx,EW,h,m⟩;have R:=O h;have M2:=O (P.o.trans m)
    replace j:=O (j.o.mw J.o m)
    clear h m J P;have bt2:=BE.o.text ((r.st).tl);have bn2:=BE.o.nodes ((r.st).tl);obtain⟨t,ha2⟩:∃ a,a=dx wild d ((r.st).tl):=⟨_,rfl⟩;rw [← ha2] at R bt2 bn2 ⊢
    obtain⟨T2,U6⟩:∃ T,T=ah t.pc:=⟨_,rfl⟩;have tl2:T2.length≤100000:=by rw [U6];exact Nat.le_trans bt2 hL
    rw [← U6];have HA2:=O ha2;have HT2:=O U6;clear ha2 U6 bt2
    (try simp only [aO,eH] at bn2)
    rw [← HA2.o] at xK
    have cb0:¬ 9223372036854775807 < X.length+y.length:=by omega
    have cb1:¬ 9223372036854775807 < X.length+y.length+1:=by omega
    have cb2:¬ 9223372036854775807 < X.length+y.length+1+T2.length:=by omega
    have Fv:=O (j.o.apart (n:=1) (c:=1) (amL _))
    replace j:=O (j.o.alloc (.cells (intCells [t.ix]).toArray 3))
    have KR:=O (rP w2 [t.ix]);have HK:=O (R.o.alloc (.cells (intCells [t.ix]).toArray 3));have MK:=O (M2.o.gT (o:=.cells (intCells [t.ix]).toArray 3));have l:=M2.o.size;clear R M2;go_wp2_with fail;obtain⟨Y,F⟩:∃ Y:Bs,Y=X ++ y ++ [58] ++ T2:=⟨_,rfl⟩;rw [show aG (X ++ y) ++ (⟨#[58]⟩:ByteArray) ++ aG (T2)=aG Y from by rw [F] <;> (simp only [← aj];rfl)];have lY:Y.length≤10000000:=by rw [F];simp only [amQ,List.length_cons,List.length_nil];omega
    have HY:=O F;clear F;refine (iD g wild _ _ (t.st) _ _ _ HK.o 25 y 0 _ [t.ix] KR.o (by first | omega|(simp only [aO,eH];omega))).mono ?_;rintro e w3⟨rfl,Ll,h,m⟩
    replace j:=O (j.o.put HK.o h m Fv.o)
    have H3:=O h;have M3:=O (MK.o.vW (x:=(⟨25,y,0,[t.ix],0⟩,(.slice (some ⟨w2.heap.size,0,none⟩) 1 1))) m (Jv l));clear h m;have K:=O (j.o.alloc (.cells #[.int .i64 (Gs.id (t.st))] 3));have HA:=O (H3.o.alloc (.cells #[.int .i64 (Gs.id (t.st))] 3));have MA:=O (M3.o.gT (o:=(.cells #[.int .i64 (Gs.id (t.st))] 3)));have l:=MA.o.size;have hrl:r.ix.length≤3:=by have:=L.o;omega
    go_wp2_with (at_builtin;go_loud (refine wpList_append_lies _ rfl (.tmp 272) (.tmp 279) 26 rfl 0 3 j0 (.int .i64 0) 1 8 Tryz.underlying26 hj0 hy0 hy1 hy2 rfl (by decide) _ r.ix.length (intCells r.ix) rfl K.o.row ⟨w3.heap.size,0,none⟩ 1 1 [.int .i64 (Gs.id (t.st))] rfl rfl (cell_one_new _ _ _) (by simp [Value.oneCell']) (by omega) (by simp only [maxLen];omega) (by omega) (amN _) _ rfl ?_);intro Sc FQ x9 C f Q W;have L33:=O (K.o.grow HA.o C Q l);have H33:=O (HA.o.grow K.o f (fun b hb=>amM (amY hg0 (K.o.lo b hb))));have M33:=O (MA.o.grow K.o f);clear C f Q W)
    clear K HA MA l j H3 M3;have xM:=O (show Y=ah (r.pc ++ (([],1,y) :: gu [58] :: t.pc)) by rw [aX,HY.o,← HX9.o];simp only [ah,gu];rw [HT2.o];simp only [List.nil_append,List.append_nil,List.append_assoc,List.cons_append]);exact⟨⟨0+1,⟨r.pc ++ (([],1,y) :: gu [58] :: t.pc),r.ix ++ [Gs.id (t.st)],(t.st).put ⟨25,y,0,[t.ix],0⟩⟩,_,_,_,_,_,by omega,by go_num,congrArg Value.string (congrArg aG xM.o),by rw [amQ];rfl,O (by rw [amQ,L.o];rfl),by rw [← xM.o,HY.o];simp only [amQ,List.length_cons,List.length_nil];omega,by show (Gs.put _ _).ns.length≤_;rw [Pq];omega,O (by show jw wild (dx wild d) (m - (0+1)) _=_;rw [xu.o,← xK.o,HR.o]),by rw [amQ];exact L33,H33,M33⟩,by simp [intOf];omega⟩
   ·have hne:r.ix ≠ []:=fun h=>hk0 (by rw [← L.o,h];rfl)
    have xK:=O (show jw wild (dx wild d) (mm+1) r=jw wild (dx wild d) mm ⟨r.pc ++ ((dQ wild r.st,4,[44]) :: ([],1,dD (aM wild r.st).nx) :: gu [58] :: (dx wild d (aM wild r.st).tl).pc),r.ix ++ [(dx wild d (aM wild r.st).tl).st.id],(dx wild d (aM wild r.st).tl).st.put ⟨25,dD (aM wild r.st).nx,0,[(dx wild d (aM wild r.st).tl).ix],0⟩⟩ by rw [jw];simp only [if_neg hne]);have zk:(0:Int) < (k:Int):=by omega
    clear hne hk0;go_wp2_with fail;refine (iC g wild _ _ (r.st) _ _ _ I.o).mono ?_;rintro e w1⟨rfl,oH,h,m⟩;have J:=O h;have P:=O (U.o.IZ m)
    replace j:=O (j.o.mv I.o m)
    clear h m I U;have gl1:=iR wild (r.st);obtain⟨E,D⟩:∃ G,G=dQ wild (r.st):=⟨_,rfl⟩;rw [← D] at gl1 ⊢
    have HG1:=O D;clear D;rw [← HG1.o] at xK
    have cg0:¬ 9223372036854775807 < E.length+1:=by omega
    have cg1:¬ 9223372036854775807 < X.length+(E.length+1):=by omega
    go_wp2_with fail;obtain⟨Z,hZ⟩:∃ Z:Bs,Z=X ++ (E ++ [44]):=⟨_,rfl⟩;rw [show (aG X ++ (aG E ++ (⟨#[44]⟩:ByteArray)))=aG Z from by rw [hZ,← aj,← aj];rfl];have hZl:Z.length≤X.length+9:=by rw [hZ];simp only [amQ,List.length_cons,List.length_nil];omega
    have HZ:=O hZ;clear hZ cg0 cg1;refine (fD g wild _ _ (aM wild (r.st)) _ _ _ J.o).mono ?_;rintro e w2⟨rfl,EW,h,m⟩;have R:=O h;have M2:=O (P.o.IZ m)
    replace j:=O (j.o.mv J.o m)
    clear h m J P;go_wp2_with fail;refine (jk ((aM wild r.st)).nx _).mono ?_;rintro e w99⟨rfl,rfl⟩;have ly:=kF ((aM wild r.st)).nx;obtain⟨y,hy⟩:∃ y,y=dD ((aM wild r.st)).nx:=⟨_,rfl⟩;rw [← hy] at ly xK ⊢
    clear hy;have hs0:((aM wild r.st)).tl.ns.length=r.st.ns.length:=by show (aM wild r.st).ns.length=_;rw [aO]
    go_wp2_with fail;refine (HEC.o g _ _ ((aM wild (r.st)).tl) _ _ _ R.o (by first | omega|(simp only [aO,eH];omega))).mono ?_;rintro e w3⟨rfl,xs3,Ll,XH,h,m⟩;have H3:=O h;have M3:=O (M2.o.trans m)
    replace j:=O (j.o.mw R.o m)
    clear h m R M2;have bt3:=BE.o.text ((aM wild (r.st)).tl);have bn3:=BE.o.nodes ((aM wild (r.st)).tl);obtain⟨B,yU⟩:∃ a,a=dx wild d ((aM wild (r.st)).tl):=⟨_,rfl⟩;rw [← yU] at H3 bt3 bn3 ⊢
    obtain⟨T3,V⟩:∃ T,T=ah B.pc:=⟨_,rfl⟩;have tl3:T3.length≤100000:=by rw [V];exact Nat.le_trans bt3 hL
    rw [← V];have fU:=O yU;have HT3:=O V;clear yU V bt3
    (try simp only [aO,eH] at bn3)
    rw [← fU.o] at xK
    have cb0:¬ 9223372036854775807 < Z.length+y.length:=by omega
    have cb1:¬ 9223372036854775807 < Z.length+y.length+1:=by omega
    have cb2:¬ 9223372036854775807 < Z.length+y.length+1+T3.length:=by omega
    have Fv:=O (j.o.apart (n:=1) (c:=1) (amL _))
    replace j:=O (j.o.alloc (.cells (intCells [B.ix]).toArray 3))
    have KR:=O (rP w3 [B.ix]);have HK:=O (H3.o.alloc (.cells (intCells [B.ix]).toArray 3));have MK:=O (M3.o.gT (o:=.cells (intCells [B.ix]).toArray 3));have l:=M3.o.size;clear H3 M3;go_wp2_with fail;obtain⟨Y,F⟩:∃ Y:Bs,Y=Z ++ y ++ [58] ++ T3:=⟨_,rfl⟩;rw [show aG (Z ++ y) ++ (⟨#[58]⟩:ByteArray) ++ aG (T3)=aG Y from by rw [F] <;> (simp only [← aj];rfl)];have lY:Y.length≤10000000:=by rw [F];simp only [amQ,List.length_cons,List.length_nil];omega
    have HY:=O F;clear F;refine (iD g wild _ _ (B.st) _ _ _ HK.o 25 y 0 _ [B.ix] KR.o (by first | omega|(simp only [aO,eH];omega))).mono ?_;rintro e w4⟨rfl,Ed,h,m⟩
    replace j:=O (j.o.put HK.o h m Fv.o)
    have H4:=O h;have M4:=O (MK.o.vW (x:=(⟨25,y,0,[B.ix],0⟩,(.slice (some ⟨w3.heap.size,0,none⟩) 1 1))) m (Jv l));clear h m;have K:=O (j.o.alloc (.cells #[.int .i64 (Gs.id (B.st))] 3));have HA:=O (H4.o.alloc (.cells #[.int .i64 (Gs.id (B.st))] 3));have MA:=O (M4.o.gT (o:=(.cells #[.int .i64 (Gs.id (B.st))] 3)));have l:=MA.o.size;have hrl:r.ix.length≤3:=by have:=L.o;omega
    go_wp2_with (at_builtin;go_loud (refine wpList_append_lies _ rfl (.tmp 272) (.tmp 279) 26 rfl 0 3 j0 (.int .i64 0) 1 8 Tryz.underlying26 hj0 hy0 hy1 hy2 rfl (by decide) _ r.ix.length (intCells r.ix) rfl K.o.row ⟨w4.heap.size,0,none⟩ 1 1 [.int .i64 (Gs.id (B.st))] rfl rfl (cell_one_new _ _ _) (by simp [Value.oneCell']) (by omega) (by simp only [maxLen];omega) (by omega) (amN _) _ rfl ?_);intro Sc FQ x9 C f Q W;have L33:=O (K.o.grow HA.o C Q l);have H33:=O (HA.o.grow K.o f (fun b hb=>amM (amY hg0 (K.o.lo b hb))));have M33:=O (MA.o.grow K.o f);clear C f Q W)
    clear K HA MA l j H4 M4;have xM:=O (show Y=ah (r.pc ++ ((E,4,[44]) :: ([],1,y) :: gu [58] :: B.pc)) by rw [aX,HY.o,HZ.o,← HX9.o];simp only [ah,gu];rw [HT3.o];simp only [List.nil_append,List.append_nil,List.append_assoc,List.cons_append]);exact⟨⟨k+1,⟨r.pc ++ ((E,4,[44]) :: ([],1,y) :: gu [58] :: B.pc),r.ix ++ [Gs.id (B.st)],(B.st).put ⟨25,y,0,[B.ix],0⟩⟩,_,_,_,_,_,by omega,by go_num,congrArg Value.string (congrArg aG xM.o),by rw [amQ];rfl,O (by rw [amQ,L.o];rfl),by rw [← xM.o,HY.o];simp only [amQ,List.length_cons,List.length_nil];omega,by show (Gs.put _ _).ns.length≤_;rw [Pq];omega,O (by show jw wild (dx wild d) (m - (k+1)) _=_;rw [xu.o,← xK.o,HR.o]),by rw [amQ];exact L33,H33,M33⟩,by simp [intOf];omega⟩
  ·obtain rfl:k=m:=by omega
   have HRR:=O (show jw wild (dx wild d) k ⟨[],[],s.tl⟩=r by rw [← HR.o,Nat.sub_self];rfl);clear HR;have tl9:(ah r.pc).length≤400000:=by omega
   obtain⟨S,hS⟩:∃ S,S=ah r.pc:=⟨_,rfl⟩;rw [← hS] at tl9 ⊢
   have HS:=O hS;clear hS hlen;have sO:¬ 9223372036854775807 < x.length+1:=by omega
   have vH:¬ 9223372036854775807 < x.length+1+S.length:=by omega
   go_wp2_with fail;refine (iC g wild _ _ (r.st) _ _ _ I.o).mono ?_;rintro e w1⟨rfl,oH,h,m⟩;have J:=O h;have P:=O (U.o.IZ m)
   replace j:=O (j.o.mv I.o m)
   clear h m I U;have gl1:=iR wild (r.st);obtain⟨E,D⟩:∃ G,G=dQ wild (r.st):=⟨_,rfl⟩;rw [← D] at gl1 ⊢
   have HG1:=O D;clear D;clear sO vH;have NQ:¬ 9223372036854775807 < x.length+1:=by omega
   have NR:¬ 9223372036854775807 < x.length+1+S.length:=by omega
   have Qt:¬ 9223372036854775807 < x.length+1+S.length+E.length:=by omega
   have RN:¬ 9223372036854775807 < x.length+1+S.length+E.length+1:=by omega
   go_wp2_with fail;obtain⟨Y,F⟩:∃ Y:Bs,Y=x ++ [123] ++ S ++ E ++ [125]:=⟨_,rfl⟩;rw [show aG (x) ++ (⟨#[123]⟩:ByteArray) ++ aG (S) ++ aG (E) ++ (⟨#[125]⟩:ByteArray)=aG Y from by rw [F] <;> (simp only [← aj];rfl)];have lY:Y.length≤10000000:=by rw [F];simp only [amQ,List.length_cons,List.length_nil];omega
   have HY:=O F;clear F;refine (iD g wild _ _ (aM wild (r.st)) _ _ _ J.o 24 x 0 _ r.ix j.o.row (by first | omega|(simp only [aO,eH];omega))).mono ?_;rintro e w2⟨rfl,Cx,h,m⟩;have R:=O h;have M2:=O (P.o.vW (x:=(⟨24,x,0,r.ix,0⟩,(.slice A r.ix.length c))) m (fun b hb=>j.o.lo b hb));clear h m;go_wp2_with fail;go_ret2
   rw [HB.o]
   have HF:=O (show PG wild (dx wild d) x b s.tl=d9 (([],1,x) :: gu [123] :: (r.pc ++ [(E,4,[125])])) (aM wild (r.st)) ⟨24,x,0,r.ix,0⟩ from by
    unfold PG;simp only
    rw [← HMB.o,HRR.o,← HG1.o])
   rw [HF.o]
   refine⟨?_,_,_,_,R.o,M2.o⟩
   show _=Ending.returned (.tuple #[.string (aG (ah (([],1,x) :: gu [123] :: (r.pc ++ [(E,4,[125])])))),.int .i64 (aM wild (r.st)).id])
   have HI:=(show ah (([],1,x) :: gu [123] :: (r.pc ++ [(E,4,[125])]))=Y from by
    simp only [ah,aX,gu];rw [HY.o,← HS.o];simp only [List.nil_append,List.append_nil,List.append_assoc,List.cons_append])
   rw [HI];rfl
section
variable (wild:Bool) (d N:Nat) (hN:N≤900000) (hE:EC wild d (N+50000)) (hL:Lb d≤100000) (hC:Cb d≤10000)
include hN hE hL hC
theorem afK:XCg wild (dx wild d) (N+50000) (.int .i64 (d:Int)):=⟨hE,KT (l7 wild d) hL hC,fun s=>jN wild d s⟩
theorem agK:LsC wild (dx wild d) N (.int .i64 ((d:Int)+1)):=fun m a g iv w s xs nv lv h b=>GY wild d N hN hE hL hC m a g iv w s xs nv lv h b
theorem aiZ (hd:d≤100)(b:Nat)(a:b < 150)(g:Nat)(iv:Value)(w:World)(s:Gs)(xs:List NV)(nv lv:Value)(h:PL g wild iv w s xs nv lv)(e:s.ns.length≤N) :
  Calls Tryz.prog 60 #[.pointer (some ⟨g,0,none⟩),.int .i64 (b:Int),.int .i64 ((d:Int)+1)] w (mF g wild iv w xs nv (Ir wild (dx wild d) b s)):=by
 have X:=O (afK wild d N hN hE hL hC);by_cases c:b < 75
 ·by_cases f:b % 2=0
  ·exact agX hN hd X b c f (O h) e
  ·exact agW hN hd X b c f (O h) e
 ·exact agU hN hd X b c a (O h) e
theorem aeW (hd:d≤100)(b:Nat)(g:Nat)(iv:Value)(w:World)(s:Gs)(xs:List NV)(nv lv:Value)(h:PL g wild iv w s xs nv lv)(c:s.ns.length≤N) :
  Calls Tryz.prog 61 #[.pointer (some ⟨g,0,none⟩),.int .i64 (b:Int),.int .i64 ((d:Int)+1)] w (mF g wild iv w xs nv (jd wild (dx wild d) b s)):=by
 have X:=O (afK wild d N hN hE hL hC);have e:=O (agK wild d N hN hE hL hC);have h7:b % 7 < 7:=Nat.mod_lt _ (by decide);obtain a | a | a | a | a | a | a:b % 7=0∨b % 7=1∨b % 7=2∨b % 7=3∨b % 7=4∨b % 7=5∨b % 7=6:=by omega
 ·exact aiY hN hd X b a (O h) c
 ·exact agV hN hd X b a (O h) c
 ·exact aeV hN hd X e b a (O h) c
 ·exact acC hN hd X b a (O h) c
 ·exact acD hN hd X b a (O h) c
 ·exact acB hN hd X e b a (O h) c
 ·exact agY wild d N hN hE hL hC b a g iv w s xs nv lv h c
theorem wC (hd:d≤100):EC wild (d+1) N:=by
 intro g iv w s xs nv lv h F;have E:=EL d;by_cases h60:s.nx < 60
 ·rw [show dx wild (d+1) s=nA s.nx s.tl by rw [dx,if_pos h60]];exact Jr ((d+1:Nat):Int) (by omega) g wild iv w s xs nv lv h (by omega) s.nx h60 (.inr ⟨by omega,rfl⟩)
 have f:s.tl.ns.length≤N:=F;have t:=O (aiZ wild d N hN hE hL hC hd);have r:=O (aeW wild d N hN hE hL hC hd);clear hE;have H:=O h;clear h;obtain⟨b,k⟩:∃ b,b=s.nx:=⟨_,rfl⟩;have D:=O (show dx wild (d+1) s=if b < 150 then Ir wild (dx wild d) b s.tl else jd wild (dx wild d) b s.tl by rw [dx,if_neg h60,k]);rw [D.o];rw [← k] at h60
 have C:=O k;clear k;have I:¬ (b:Int) < 20:=by omega
 have J:¬ (b:Int) < 30:=by omega
 have K:¬ (b:Int) < 60:=by omega
 have L:¬ ((d:Int)+1≤0):=by omega
 by_cases a:b < 150
 ·rw [if_pos a];have A:(b:Int) < 150:=by omega
  rw [show ((d+1:Nat):Int)=(d:Int)+1 by omega];go_enter Tryz.func34,Tryz.ntmps34
  go_wp2_with fail;refine (fD g wild iv _ s xs nv lv H.o).mono ?_;rintro e w1⟨rfl,B,h1,i⟩;have n:=O h1;have x:=O (Gw.O9 xs i);clear h1 i H;rw [← C.o];go_wp2_with fail;refine (t.o b a g iv _ s.tl xs nv B n.o f).mono ?_;rintro e G⟨rfl,c,l,m,h2,j⟩;have q:=O h2;have y:=O (x.o.trans j);clear h2 j;go_wp2_with fail;go_ret2
  exact⟨rfl,c,l,m,q.o,y.o⟩
 ·rw [if_neg a];have A:¬ (b:Int) < 150:=by omega
  rw [show ((d+1:Nat):Int)=(d:Int)+1 by omega];go_enter Tryz.func34,Tryz.ntmps34
  go_wp2_with fail;refine (fD g wild iv _ s xs nv lv H.o).mono ?_;rintro e w1⟨rfl,B,h1,i⟩;have n:=O h1;have x:=O (Gw.O9 xs i);clear h1 i H;rw [← C.o];go_wp2_with fail;refine (r.o b g iv _ s.tl xs nv B n.o f).mono ?_;rintro e G⟨rfl,c,l,m,h2,j⟩;have q:=O h2;have y:=O (x.o.trans j);clear h2 j;go_wp2_with fail;go_ret2
  exact⟨rfl,c,l,m,q.o,y.o⟩
end
theorem WQ (wild:Bool)(N:Nat)(hN:N≤950000):EC wild 0 N:=by
 intro g iv w s xs nv lv h a;exact Jr 0 (by omega) g wild iv w s xs nv lv h (by omega) (s.nx % 60) (Nat.mod_lt _ (by decide)) (.inl ⟨rfl,rfl⟩)
theorem yx (wild:Bool):EC wild 3 800000 :=
 wC wild 2 _ (by omega) (wC wild 1 _ (by omega) (wC wild 0 _ (by omega) (WQ wild _ (by omega)) (by decide) (by decide) (by decide)) (by decide) (by decide) (by decide)) (by decide) (by decide) (by decide)
theorem WL (wild:Bool):EC wild 4 750000:=wC wild 3 _ (by omega) (yx wild) (by decide) (by decide) (by decide)
theorem Nq {v u:Value}{n:Nat}(h1:∀ b,u.ownBlock=some b→b < n)(h2:∀ b,v.ownBlock=some b→n≤b):u.ownBlock=none∨u.ownBlock ≠ v.ownBlock:=by
 rcases h9:u.ownBlock with _ | b
 ·exact .inl rfl
 ·right
  intro e
  have:=h1 b h9
  have:=h2 b e.symm
  omega
section
variable {g:Nat} {wild:Bool} {iv lv:Value} {w0 w w1:World} {s:Gs} {xs xs1:List NV} {nv ji:Value} {v u:Value} {ks js:List Int}
theorem LG.ajD (h:LG w0 w xs v ks){b:Nat}{cs:Array Value}(a:bY w b 41 cs)(i:Nat)(u:Value):LG w0 (w.setCell ⟨b,i,none⟩ u) xs v ks:=⟨ownsRow_setCell_other h.row (aW h.row a (by decide)) u,h.lo,h.far⟩
theorem LG.base (h:LG w1 w xs v ks)(h0:w0.heap.size≤w1.heap.size):LG w0 w xs v ks:=⟨h.row,fun b a=>Nat.le_trans h0 (h.lo b a),h.far⟩
theorem LG.keep (h:LG w0 w xs v ks)(b:w.grownBy w1 u.ownBlock)(a:v.ownBlock=none∨v.ownBlock ≠ u.ownBlock):LG w0 w1 xs v ks:=⟨World.ownsRow.kept h.row b a,h.lo,h.far⟩
theorem LG.grows (h:LG w0 w xs v ks){a cap:Nat}(q:PL g wild iv w s xs nv lv)(f:w1.ownsRow 0 3 1 (.slice (some ⟨a,0,none⟩) (ks.length+js.length) cap) (ks.length+js.length) (intCells ks ++ intCells js))(c:v.ownBlock=some a∨a=w.heap.size)(h0:w0.heap.size≤w.heap.size):LG w0 w1 xs (.slice (some ⟨a,0,none⟩) (ks.length+js.length) cap) (ks ++ js):=by
 refine⟨?_,fun b i=>?_,fun x j=>?_⟩
 ·unfold dw;rw [amQ,show intCells (ks ++ js)=intCells ks ++ intCells js by unfold intCells;rw [List.map_append]];exact f
 ·have i:a=b:=by simpa [Value.ownBlock] using i
  subst i;rcases c with e | e
  ·exact h.lo _ e
  ·omega
 ·rcases c with e | e
  ·have:=h.far x j
   rw [e] at this
   simpa [Value.ownBlock] using this
  ·rcases h9:x.2.ownBlock with _ | b
   ·exact .inl rfl
   ·right
    intro k;have h1:=dw.lt (q.kids x j) b h9;simp [Value.ownBlock] at k
    omega
theorem PL.items (h:PL g wild iv w s xs nv lv)(D_:Value):PL g wild D_ (w.setCell ⟨g,2,none⟩ D_) s xs nv lv :=
 have m:Mv g nv.ownBlock w nv.ownBlock (w.setCell ⟨g,2,none⟩ D_):=Mv.jX h.blk 2 D_
 ⟨(by have:=h.blk.jX 2 D_;simpa using this),h.seed.below (h.low m) (amM h.lt),ownsRow_setCell_other h.own (aW h.own h.blk (by decide)) _,fun x a=>h.uy m (h.kids x a),h.ns,h.pow.on (h.low m)⟩
end
def nI (g:Nat)(wild:Bool)(w0 w:World)(its:List Int)(r:Gr)(e:Ending)(w':World):Prop :=
 e=.returned (.string (aG (ah r.pc)))∧∃ D_ xs' gY nH,PL g wild D_ w' r.st xs' gY nH∧LG w0 w' xs' D_ (its ++ [r.ix])∧Below g w w'
theorem adq (wild:Bool):XCg wild (dx wild 4) 700000 (.int .i64 4) :=
 ⟨fun g iv w s xs nv lv h a=>WL wild g iv w s xs nv lv h (by omega),KT (l7 wild 4) (by decide) (by decide),fun s=>jN wild 4 s⟩
theorem adp (wild:Bool):XCg wild (dx wild 3) 750000 (.int .i64 3) :=
 ⟨fun g iv w s xs nv lv h a=>yx wild g iv w s xs nv lv h (by omega),KT (l7 wild 3) (by decide) (by decide),fun s=>jN wild 3 s⟩
theorem abI (wild:Bool):LsC wild (dx wild 3) 700000 (.int .i64 4):=fun m a g iv w s xs nv lv h b =>
 GY wild 3 750000 (by omega) (yx wild) (by decide) (by decide) m a g iv w s xs nv lv h (by omega)
section
variable {g:Nat} {wild:Bool} {iv Lj nv lv:Value} {w0 w:World} {s:Gs} {MJ xs:List NV} (H:Hid (PL g wild iv w s xs nv lv)) (M:Hid (Gw g w0 MJ Lj w xs nv))
include H M
theorem kdH (i:s.ns.length≤800000):Calls Tryz.prog 32 #[.pointer (some ⟨g,0,none⟩),.int .i64 2] w fun e c=>∃ a T b gY f,e=.returned (.tuple #[.string (aG T),.int .i64 a.ix])∧Hid (dG wild 2 s=a)∧Hid (ah a.pc=T)∧Hid (∀ u,ah (eO.on u a.pc)=u ++ T)∧T.length≤100∧a.st.ns.length≤s.ns.length+3∧Hid (PL g wild iv c a.st b gY f)∧Hid (Gw g w0 MJ Lj c b gY)∧Hid (Kp w xs c b):=by
 refine (vS wild g iv _ s _ _ _ H.o i).mono ?_;rintro e c ⟨rfl,b,gY,f,h,m⟩;obtain⟨b1,b2⟩:=uz wild 2 s;exact⟨_,_,b,gY,f,rfl,O rfl,O rfl,O (BM (qV wild 2 s)),Nat.le_trans b1 (by omega),b2,O h,O (M.o.trans m),O fun w1 v ks L=>L.mw H.o m⟩
theorem nbH {n:Int}(h0:-140 < n)(h1:n < 140)(i:s.ns.length≤900000):Calls Tryz.prog 28 #[.pointer (some ⟨g,0,none⟩),.int .i64 n] w fun e c=>∃ a T b gY f,e=.returned (.tuple #[.string (aG T),.int .i64 a.ix])∧Hid (eT n s=a)∧Hid (ah a.pc=T)∧Hid (∀ u,ah (eO.on u a.pc)=u ++ T)∧T.length≤100∧a.st.ns.length≤s.ns.length+1∧Hid (PL g wild iv c a.st b gY f)∧Hid (Gw g w0 MJ Lj c b gY)∧Hid (Kp w xs c b):=by
 refine (LU wild n (by omega) (by omega) g iv _ s _ _ _ H.o i).mono ?_;rintro e c ⟨rfl,b,gY,f,h,m⟩;obtain⟨b1,b2⟩:=Tj n h0 h1 s;exact⟨_,_,b,gY,f,rfl,O rfl,O rfl,O (aiN (agN n)),Nat.le_trans b1 (by omega),Nat.le_of_eq b2,O h,O (M.o.trans m),O fun w1 v ks L=>L.mw H.o m⟩
theorem prH {m:Nat}(q:m≤6)(t:s.ns.length≤700000):Calls Tryz.prog 31 #[.pointer (some ⟨g,0,none⟩),.int .i64 (m:Int)] w fun e f=>∃ r T A c a gY i,e=.returned (.tuple #[.string (aG T),.slice A r.ix.length c])∧Hid (dL wild m ⟨[],[],s⟩=r)∧Hid (ah r.pc=T)∧T.length≤500∧r.st.ns.length≤s.ns.length+30∧r.ix.length≤6∧Hid (LG w0 f a (.slice A r.ix.length c) r.ix)∧Hid (PL g wild iv f r.st a gY i)∧Hid (Gw g w0 MJ Lj f a gY)∧Hid (Kp w xs f a):=by
 refine (LV wild 700000 (by omega) m q g iv _ s _ _ _ H.o t).mono ?_;rintro e f ⟨A,c,a,gY,i,rfl,l,h,k⟩;obtain⟨b1,b2,j⟩:=wP wild m ⟨[],[],s⟩;rw [iX] at b1
 have b2:(dL wild m ⟨[],[],s⟩).st.ns.length≤s.ns.length+m * 4:=b2;have j:(dL wild m ⟨[],[],s⟩).ix.length=0+m:=j;exact⟨_,_,A,c,a,gY,i,rfl,O rfl,O rfl,Nat.le_trans b1 (by omega),by omega,by omega,O ⟨l.row,fun b n=>Nat.le_trans M.o.size (l.lo b n),l.far⟩,O h,O (M.o.trans k),O fun w1 v ks L=>L.mw H.o k⟩
theorem itB {h:Option Addr}{i e cap:Nat}{id:Int}{a:List Int}{l f:World}(E:iv=.slice h a.length i)(B:Hid (∀ (row:Option Nat) (t:World),Mv g Lj.ownBlock w0 row t→Below g w0 t))(L:Hid (LG l w xs (.slice h a.length i) a))(I:l.heap.size≤w0.heap.size)(F:g < l.heap.size)
  (k:f.ownsRow 0 3 1 (.slice (some ⟨e,0,none⟩) (a.length+1) cap) (a.length+1) (intCells a ++ [.int .i64 id])) (c:(w.alloc (.cells #[.int .i64 id] 3)).grownBy f (Value.slice h a.length i).ownBlock) (r:(Value.slice h a.length i).ownBlock=some e∨e=(w.alloc (.cells #[.int .i64 id] 3)).heap.size) :
  bY f g 41 #[lv,nv,.slice h a.length i,.bool wild]∧Hid (PL g wild (.slice (some ⟨e,0,none⟩) (a.length+1) cap) (f.setCell ⟨g,2,none⟩ (.slice (some ⟨e,0,none⟩) (a.length+1) cap)) s xs nv lv)∧Hid (LG l (f.setCell ⟨g,2,none⟩ (.slice (some ⟨e,0,none⟩) (a.length+1) cap)) xs (.slice (some ⟨e,0,none⟩) (a.length+1) cap) (a ++ [id]))∧Hid (Below g w0 (f.setCell ⟨g,2,none⟩ (.slice (some ⟨e,0,none⟩) (a.length+1) cap))):=by
 subst E;have G:=M.o.size;have x:=B.o _ _ M.o.mv;have q:=L.o.alloc (.cells #[.int .i64 id] 3);have n:=H.o.alloc (.cells #[.int .i64 id] 3);have A:=x.alloc (by have:=x.size;have:=H.o.lt;omega) (.cells #[.int .i64 id] 3);have j:=fun b D=>amM (amY F (q.lo b D))
 have C:=q.grow n k r (Nat.le_trans I (by simp;omega));have m:=n.grow q c j;have y:=A.grown c (amM n.lt) j;exact⟨m.blk,O (m.items _),O (C.ajD m.blk 2 _),O (gQ y (amL _))⟩
end
theorem itE {g:Nat}{wild:Bool}{w0 w e:World}{s:Gs}{c:List Int}{a:Gr}{Y G:Bs}{t:ByteArray}{iv nv lv:Value}{xs:List NV}{id:Int}(j:gI wild s=a)(i:ah a.pc ++ iY s=Y)(f:dQ wild a.st=G)(hi:a.ix=id)(k:t=aG (Y ++ G ++ [59]))(h:PL g wild iv e (aM wild a.st) xs nv lv)(l:LG w0 e xs iv (c ++ [id]))(b:Below g w e):nI g wild w0 w c (iF wild s) (.returned (.string t)) e:=by
 subst j f hi
 refine⟨?_,iv,xs,nv,lv,h,l,b⟩
 rw [k,← i]
 show _=Ending.returned (.string (aG (ah ((gI wild s).pc ++ [(iY s ++ dQ wild (gI wild s).st,4,[59])]))))
 rw [aX];simp only [ah];simp only [List.append_nil,List.append_assoc]
theorem vY (r:Nat)(h:r < 9)(w:World):Sem.run Tryz.prog (Instr.index 117 (.agg #[.string ⟨#[]⟩,.string ⟨#[109,117,115,116]⟩,.string ⟨#[109,97,121]⟩,.string ⟨#[99,111,117,110,116]⟩,.string ⟨#[98,111,117,110,100,115]⟩,.string ⟨#[118,97,108,117,101,115]⟩,.string ⟨#[119,104,121]⟩,.string ⟨#[98,108,97,109,101]⟩,.string ⟨#[108,111,111,107]⟩]) (.int .i64 r)) w=.ok (.string (aG (sg mV r))) w:=by
 obtain rfl | rfl | rfl | rfl | rfl | rfl | rfl | rfl | rfl:r=0∨r=1∨r=2∨r=3∨r=4∨r=5∨r=6∨r=7∨r=8:=by omega
 all_goals kernel_rfl
