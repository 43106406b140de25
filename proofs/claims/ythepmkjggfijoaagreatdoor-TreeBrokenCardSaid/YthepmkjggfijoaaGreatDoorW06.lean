/-
  A part of the proof.
-/
import Derived.Test.YthepmkjggfijoaaGreatDoorSA
import Derived.Deep.RegionHeld3
import Derived.Test.YthepmkjggfijoaaGreatDoorShelf
import Derived.Test.YthepmkjggfijoaaGreatDoorS21
import Derived.Test.YthepmkjggfijoaaGreatDoorW03
import Derived.Test.YthepmkjggfijoaaGreatDoorW05
set_option linter.all false
set_option maxRecDepth 100000
set_option maxHeartbeats 4000000
namespace Go.Proofs.YthepmkjggfijoaaGreatDoor
open Go.RowKit Mist
attribute [local go_sem] aj aH aS aB ak
theorem RZ (w:World)(k:Nat)(os:Array Obj):Below w.heap.size w (Go.Sort.grow (w.drewN k) os) :=
 ⟨rfl,rfl,rfl,by show w.heap.size≤(w.heap ++ os).size;rw [Array.size_append];omega,fun b a=>Array.getElem?_append_left a⟩
theorem vw (n:Int)(h0:-1000000≤n)(h1:n≤1000000)(g:Nat)(ay:Bool)(iv:Value)(w:World)(s:bC)(xs:List NV)(nv lv:Value)(h:dY g ay iv w s xs nv lv) :
  Calls Tryz.prog 77 #[.int .i64 n] w fun e a=>e=.returned (.string (aM (Go.Lib.itoa n)))∧Below w.heap.size w a:=by
 refine (Tryz.strconv_Itoa n (by omega) (by omega) w h.pow.here).mono ?_;rintro e a ⟨rfl,k,b,rfl⟩;exact⟨rfl,RZ w k b⟩
def lg (g:Nat)(ay:Bool)(iv:Value)(w:World)(xs:List NV)(nv:Value)(r:kJ)(e:Ending)(w':World):Prop :=
 e=.returned (.tuple #[.string (aM (aN r.pc)),.int .i64 r.ix])∧∃ xs' eO lW,dY g ay iv w' r.st xs' eO lW∧iL g w xs nv w' xs' eO
def abO (ay:Bool)(d N:Nat):Prop:=∀ (g:Nat) (iv:Value) (w:World) (s:bC) (xs:List NV) (nv lv:Value),dY g ay iv w s xs nv lv→s.ns.length≤N →
 Calls Tryz.prog 117 #[.pointer (some ⟨g,0,none⟩),.int .i64 (d:Int)] w (lg g ay iv w xs nv (bB ay d s))
section
variable {g:Nat} {ay:Bool} {iv:Value} {w w1 w2:World} {xs xs1:List NV} {nv gW lv:Value} {s s1:bC}
theorem iL.Jv (xs:List NV)(m:Mv g nv.ownBlock w nv.ownBlock w1):iL g w xs nv w1 xs nv:=⟨m,[],by simp,fun y hy=>by cases hy⟩
theorem iL.D7 (h:iL g w xs nv w1 xs1 gW)(k:Mv g gW.ownBlock w1 gW.ownBlock w2):iL g w xs nv w2 xs1 gW:=⟨h.mv.trans k,h.new⟩
theorem iL.wB {d:Value}{x:NV}(h:iL g w xs nv w1 xs1 gW)(k:Mv g gW.ownBlock w1 d.ownBlock w2)(f:∀ b,x.2.ownBlock=some b→w.heap.size≤b):iL g w xs nv w2 (xs1 ++ [x]) d:=by
 obtain⟨i,e,hy⟩:=h.new
 refine⟨h.mv.trans k,i ++ [x],by rw [e,List.append_assoc],fun y a b c=>?_⟩
 rcases List.mem_append.1 a with a | a
 ·exact hy y a b c
 ·rw [List.mem_singleton.1 a] at c;exact f b c
end
theorem Pv (r:Nat)(h:r < 2)(w:World):Sem.run Tryz.prog (Instr.index 90 (.agg #[.string ⟨#[102,97,108,115,101]⟩,.string ⟨#[116,114,117,101]⟩]) (.int .i64 r)) w=.ok (.string (aM (if r=0 then [102,97,108,115,101] else [116,114,117,101]))) w:=by
 obtain rfl | rfl:r=0∨r=1:=by omega
 all_goals kernel_rfl
theorem CV (n:Int):aN (fI n)=Go.Lib.itoa n:=by
 unfold fI;split
 ·rename_i h
  show [] ++ ([45] ++ ([] ++ (Go.Lib.itoa (-n) ++ [])))=_
  unfold Go.Lib.itoa;rw [if_pos h,if_neg (by omega)];simp only [List.nil_append,List.append_nil];rw [show (-n).toNat=n.natAbs by omega];rfl
 ·show [] ++ (Go.Lib.itoa n ++ [])=_
  simp
theorem kS (g:Bs)(k:Nat)(t:Bs):aN [(g,k,t)]=g ++ t:=by show g ++ (t ++ [])=_;rw [List.append_nil]
theorem Es (d:Int)(hd:0≤d)(g:Nat)(ay:Bool)(iv:Value)(w:World)(s:bC)(xs:List NV)(nv lv:Value)(h:dY g ay iv w s xs nv lv)(X:s.ns.length≤950000)(b:Nat)(W:b < 60)(k:(d=0∧b=s.nx % 60)∨(0 < d∧b=s.nx)) :
  Calls Tryz.prog 117 #[.pointer (some ⟨g,0,none⟩),.int .i64 d] w (lg g ay iv w xs nv (lF b s.tl)):=by
 have H:=O h;clear h;have Q:=O (show (d=0∧b=s.nx % 60)∨(0 < d∧b=s.nx) from k);have m:s.tl.ns.length≤1000000:=by show s.ns.length≤_;omega
 have l:∃ x:Nat,s.nx=x∧((d=0∧Int.tmod (x:Int) 60=(b:Int))∨(0 < d∧b=x)):=⟨s.nx,rfl,by
  rcases k with ⟨h1,h2⟩ | ⟨h1,h2⟩
  ·exact .inl ⟨h1,by rw [Int.tmod_eq_emod_of_nonneg (by omega),h2];omega⟩
  ·exact .inr ⟨h1,h2⟩⟩
 obtain⟨x,L,C⟩:=l;have A:=O L;clear k L Q;by_cases h20:b < 20
 ·have n:=O (show lF b s.tl=bH (fI ((b:Int) * 7)) s.tl ⟨1,[],(b:Int) * 7,[],0⟩ by unfold lF;rw [if_pos h20,show ((b * 7:Nat):Int)=(b:Int) * 7 by omega]);have F:(b:Int) < 20:=by omega
  have S:IntKind.i64.wrap ((b:Int) * 7)=(b:Int) * 7:=IntWalk.i64_in _ (by omega);go_in
  go_wp2_with fail;refine (bU g ay iv _ s xs nv lv H.o).mono ?_;rintro e w1⟨rfl,c,h1,f⟩;have i:=O h1;have u:=O (iL.Jv xs f);clear h1 f;rw [A.o];rcases C with ⟨rfl,J⟩ | ⟨y,rfl⟩
  all_goals
   go_wp2_with fail;refine (vw _ (by omega) (by omega) g ay iv _ s.tl xs nv c i.o).mono ?_;rintro e w2⟨rfl,j⟩;have P:=O (i.o.below j);have R:=O (u.o.aL j);clear j;go_wp2_with fail;refine (dH g ay iv _ s.tl xs nv c P.o 1 [] _ _ [] (cB.none_ _) m).mono ?_;rintro e N⟨rfl,q,h3,a⟩;have t:=O h3;have v:=O (R.o.wB (x:=(⟨1,[],(b:Int) * 7,[],0⟩,.slice none 0 0)) a pQ);clear h3 a;go_wp2_with fail;go_ret2
   rw [n.o];exact⟨by show _=Ending.returned (.tuple #[.string (aM (aN (fI ((b:Int) * 7)))),.int .i64 s.tl.id]);rw [CV];rfl,_,q,c,t.o,v.o⟩
 have F:¬ (b:Int) < 20:=by omega
 by_cases I:b < 30
 ·obtain⟨r,D⟩:∃ r,r=b % 2:=⟨_,rfl⟩;have n:=O (show lF b s.tl=bH [([],3,if r=0 then [102,97,108,115,101] else [116,114,117,101])] s.tl ⟨2,[],(r:Int),[],0⟩ by unfold lF;rw [if_neg h20,if_pos I,D]);have G:(b:Int) < 30:=by omega
  have U:Int.tmod (b:Int) 2=(r:Int):=by rw [Int.tmod_eq_emod_of_nonneg (by omega),D];omega
  have E:r < 2:=by omega
  have M:=Pv r E;obtain⟨T,B⟩:∃ T:Bs,T=if r=0 then [102,97,108,115,101] else [116,114,117,101]:=⟨_,rfl⟩
  rw [← B] at n
  have K:∀ w,Sem.run Tryz.prog (Instr.index 90 (.agg #[.string ⟨#[102,97,108,115,101]⟩,.string ⟨#[116,114,117,101]⟩]) (.int .i64 r)) w=.ok (.string (aM T)) w:=by rw [B];exact M
  clear M;have Y:(0:Int)≤(r:Int):=by omega
  have Z:(r:Int) < 2:=by omega
  clear D B;go_in
  go_wp2_with fail;refine (bU g ay iv _ s xs nv lv H.o).mono ?_;rintro e w1⟨rfl,c,h1,f⟩;have i:=O h1;have u:=O (iL.Jv xs f);clear h1 f;rw [A.o];rcases C with ⟨rfl,J⟩ | ⟨y,rfl⟩
  all_goals
   go_wp2_with fail;go_region_held3 (fun _=>True) (trivial) ((go_at_call 114;refine (dH g ay iv _ s.tl xs nv c (by first | exact i.o | exact i.o.drew) 2 [] _ _ [] (cB.none_ _) m).mono ?_;rintro e N⟨rfl,q,h3,a⟩;have t:=O h3;have v:=O (u.o.wB (x:=(⟨2,[],(r:Int),[],0⟩,.slice none 0 0)) (by first | exact a | exact (Mv.Zp Mv.refl).trans a) pQ);clear h3 a))
   all_goals
    go_wp2_with fail;go_ret2
    rw [n.o];exact⟨by show _=Ending.returned (.tuple #[.string (aM (aN [([],3,T)])),.int .i64 s.tl.id]);rw [kS];rfl,_,q,c,t.o,v.o⟩
 have G:¬ (b:Int) < 30:=by omega
 have n:=O (show lF b s.tl=bH [([],1,bA b)] s.tl ⟨3,bA b,0,[],0⟩ by unfold lF;rw [if_neg h20,if_neg I]);have V:(b:Int) < 60:=by omega
 go_in
 go_wp2_with fail;refine (bU g ay iv _ s xs nv lv H.o).mono ?_;rintro e w1⟨rfl,c,h1,f⟩;have i:=O h1;have u:=O (iL.Jv xs f);clear h1 f;rw [A.o];rcases C with ⟨rfl,J⟩ | ⟨y,rfl⟩
 all_goals
  go_wp2_with fail;refine (fD b _).mono ?_;rintro e w2⟨rfl,rfl⟩;go_wp2_with fail;refine (fD b _).mono ?_;rintro e w2⟨rfl,rfl⟩;go_wp2_with fail;refine (dH g ay iv _ s.tl xs nv c i.o 3 (bA b) _ _ [] (cB.none_ _) m).mono ?_;rintro e N⟨rfl,q,h3,a⟩;have t:=O h3;have v:=O (u.o.wB (x:=(⟨3,bA b,0,[],0⟩,.slice none 0 0)) a pQ);clear h3 a;go_wp2_with fail;go_ret2
  rw [n.o];exact⟨by show _=Ending.returned (.tuple #[.string (aM (aN [([],1,bA b)])),.int .i64 s.tl.id]);rw [kS];rfl,_,q,c,t.o,v.o⟩
end Go.Proofs.YthepmkjggfijoaaGreatDoor
namespace Go.Proofs.YthepmkjggfijoaaGreatDoor
open Go.RowKit Mist
attribute [local go_sem] aj aH aS aB ak
theorem zV {I:bN}(h:Ap I)(g:Bs):aN (bN.on g I)=g ++ aN I:=h.start.text g
def J8 (g:Nat)(ay:Bool)(iv:Value)(w:World)(xs:List NV)(nv:Value)(r:pz)(e:Ending)(w':World):Prop :=
 ∃ A c xs' eO lW,e=.returned (.tuple #[.string (aM (aN r.pc)),.slice A r.ix.length c])∧jG w w' xs' (.slice A r.ix.length c) r.ix∧dY g ay iv w' r.st xs' eO lW∧iL g w xs nv w' xs' eO
theorem BO:∀ d,d≤Qn d
 | 0=>aaL _
 | d+1=>by have:=BO d;unfold Qn;omega
theorem C8 (ay:Bool)(d:Nat)(N:Nat)(hN:N≤900000)(hE:abO ay d (N+50000))(hL:Qn d≤100000)(hC:UN d≤10000)(m:Nat)(hm:m≤4)(g:Nat)(iv:Value)(w:World)(s:bC)(xs:List NV)(nv lv:Value)(h:dY g ay iv w s xs nv lv)(hn:s.ns.length≤N) :
  Calls Tryz.prog 176 #[.pointer (some ⟨g,0,none⟩),.int .i64 (m:Int),.int .i64 ((d:Int)+1)] w (J8 g ay iv w xs nv (bK ay (bB ay d) m ⟨[],[],s⟩)):=by
 have H0:=O h;have M0:=O (iL.refl (g:=g) (w:=w) (xs:=xs) (nv:=nv));clear h;have a0:=H0.o.lt;obtain⟨j0,a1,a4,a5,a6⟩:=info_parts gN;have BE:=O (kM ay d);have HL:=O (jG.empty (w0:=w) H0.o rfl (aaJ _));have U:=O (H0.o.alloc (.cells #[] 3));have M1:=O (M0.o.dD (o:=.cells #[] 3));have V:=O hE;have b7:=BO d;have zd:IntKind.i64.wrap ((d:Int)+1 - 1)=(d:Int):=by rw [Int.add_sub_cancel];exact IntWalk.i64_in _ ⟨by omega,by omega⟩
 clear hE H0 M0;go_in
 go_wp2_with fail;go_loopw [8,9,10] (fun sv l0 i wr=>∃ (k:Nat) (r:pz) (A:Option Addr) (c:Nat) (xs1:List NV) (gW oI:Value),k≤m∧i=.int .i64 k∧sv=.string (aM (aN r.pc))∧l0=.slice A r.ix.length c∧Hid (r.ix.length=k)∧(aN r.pc).length≤k * 100009∧r.st.ns.length≤N+k * 10000∧Hid (bK ay (bB ay d) (m - k) r=bK ay (bB ay d) m ⟨[],[],s⟩)∧Hid (Qm r)∧Hid (jG w wr xs1 (.slice A r.ix.length c) r.ix)∧Hid (dY g ay iv wr r.st xs1 gW oI)∧Hid (iL g w xs nv wr xs1 gW)) (fun _ _ i _=>m - (intOf i).toNat)
 case atStart=>exact⟨0,⟨[],[],s⟩,_,_,xs,nv,lv,aaL _,rfl,rfl,rfl,O rfl,by simp [aN],by simpa using hn,O rfl,O (li0 s),HL,U,M1⟩
 case round =>
  clear HL U M1;obtain⟨wo,rfl⟩:∃ wo:World,wo=wr:=⟨_,rfl⟩;obtain⟨k,r,A,c,xs1,gW,oI,hk,rfl,rfl,rfl,q,a2,b8,W,HI,L,H,M⟩:=hrel;by_cases C:k < m
  ·obtain⟨R,a3⟩:∃ R,m - k=R+1:=⟨m - k - 1,by omega⟩;have IV:m - (k+1)=R:=by omega
   rw [a3] at W
   have U1:=O IV;clear a3 IV;have HX:=O (show aN r.pc=aN r.pc from rfl);obtain⟨X,hX⟩:∃ X,X=aN r.pc:=⟨_,rfl⟩;rw [← hX] at a2 ⊢
   replace HX:=O hX
   clear hX;by_cases K:k=0
   ·subst K;have v:r.ix=[]:=List.eq_nil_of_length_eq_zero q.o;have S:=O (show bK ay (bB ay d) (R+1) r=bK ay (bB ay d) R ⟨r.pc ++ (bB ay d r.st).pc,r.ix ++ [(bB ay d r.st).ix],(bB ay d r.st).st⟩ by rw [bK,if_pos v]);have l:=O (show Qm ⟨r.pc ++ (bB ay d r.st).pc,r.ix ++ [(bB ay d r.st).ix],(bB ay d r.st).st⟩ from ⟨fun h=>by simp at h,fun _=>by show Ap (r.pc ++ _);rw [HI.o.1 v];exact iB ay d _⟩);clear v;go_wp2_with fail;refine (V.o g iv _ r.st xs1 gW oI H.o (by omega)).mono ?_;rintro e w2⟨rfl,b4,Qu,BX,h2,Q⟩;have D:=O h2;have M2:=O (M.o.trans Q);have L2:=O (L.o.mw H.o Q);clear h2 Q;have I:=BE.o.text r.st;have y:=BE.o.nodes r.st;obtain⟨a,J⟩:∃ a,a=bB ay d r.st:=⟨_,rfl⟩;rw [← J] at S D I y ⊢
    obtain⟨T,B⟩:∃ T,T=aN a.pc:=⟨_,rfl⟩;have a8:T.length≤100000:=by rw [B];exact Nat.le_trans I hL
    rw [← B];have Z:=O B;rw [← J] at l
    clear B J I;have n:=O (L2.o.alloc (.cells #[.int .i64 a.ix] 3));have E:=O (D.o.alloc (.cells #[.int .i64 a.ix] 3));have F:=O (M2.o.dD (o:=(.cells #[.int .i64 a.ix] 3)));have u:=F.o.size;have b2:¬ 9223372036854775807 < X.length+T.length:=by omega
    have a9:r.ix.length≤4:=by have:=q.o;omega
    go_wp2_with (at_builtin;go_loud (refine wpList_append_lies _ rfl (.tmp 36) (.tmp 38) 24 rfl 0 3 j0 (.int .i64 0) 1 8 Tryz.underlying24 a1 a4 a5 a6 rfl (by decide) _ r.ix.length (intCells r.ix) rfl n.o.row ⟨w2.heap.size,0,none⟩ 1 1 [.int .i64 a.ix] rfl rfl (cell_one_new _ _ _) (by simp [Value.oneCell']) (by omega) (by simp only [maxLen];omega) (by omega) (aaL _) _ rfl ?_);intro Kw CK Tx j f t C;have L3:=O (n.o.grow E.o j t u);have H3:=O (E.o.grow n.o f (fun b hb=>aaK (aaW a0 (n.o.lo b hb))));have M3:=O (F.o.grow n.o f);clear j f t C)
    clear n E F u L2 D M2;exact⟨⟨0+1,_,_,_,_,_,_,by omega,by go_num,congrArg Value.string (congrArg aM (show X ++ T=aN (r.pc ++ a.pc) by rw [qZ,HX.o,Z.o])),by rw [aaO];rfl,O (by rw [aaO,q.o];rfl),by rw [qZ,← HX.o,← Z.o,aaO];omega,by show a.st.ns.length≤_;omega,O (by show bK ay (bB ay d) (m - (0+1)) _=_;rw [U1.o,← S.o,W.o]),l,by rw [aaO];exact L3,H3,M3⟩,by simp [intOf];omega⟩
   ·have P:r.ix ≠ []:=fun h=>K (by rw [← q.o,h];rfl)
    have S:=O (show bK ay (bB ay d) (R+1) r=bK ay (bB ay d) R ⟨r.pc ++ (bP [44] :: bN.on (bG ay r.st) (bB ay d (aX ay r.st)).pc),r.ix ++ [(bB ay d (aX ay r.st)).ix],(bB ay d (aX ay r.st)).st⟩ by rw [bK,if_neg P])
    have l:=O (show Qm ⟨r.pc ++ (bP [44] :: bN.on (bG ay r.st) (bB ay d (aX ay r.st)).pc),r.ix ++ [(bB ay d (aX ay r.st)).ix],(bB ay d (aX ay r.st)).st⟩ from by
     have:=oh ay (iB ay d) 1 r HI.o
     rw [bK,if_neg P,bK] at this
     exact this)
    have x:=O ((iB ay d (aX ay r.st)).start.text (bG ay r.st));have b5:(0:Int) < (k:Int):=by omega
    clear P K;go_wp2_with fail;refine (dF g ay iv _ r.st xs1 gW oI H.o).mono ?_;rintro e w1⟨rfl,b3,h1,m1⟩;have U:=O h1;have M1:=O (M.o.D7 m1);have L1:=O (L.o.mv H.o m1);clear h1 m1;have Fb:=eU ay r.st;obtain⟨G,hG⟩:∃ G,G=bG ay r.st:=⟨_,rfl⟩;rw [← hG] at Fb S l x ⊢
    have b0:¬ 9223372036854775807 < 1+G.length:=by omega
    have b1:¬ 9223372036854775807 < X.length+(1+G.length):=by omega
    clear hG H M L;go_wp2_with fail;obtain⟨Y,hY⟩:∃ Y,Y=X ++ ([44] ++ G):=⟨_,rfl⟩;have b6:Y.length=X.length+(1+G.length):=by rw [hY,aaO,aaO];rfl
    rw [show (aM X ++ ((⟨#[44]⟩:ByteArray) ++ aM G))=aM Y from by rw [hY,← ak,← ak];rfl];have HY:=O hY;clear hY b0 b1;refine (V.o g iv _ (aX ay r.st) xs1 gW b3 U.o (by rw [aF];omega)).mono ?_;rintro e w2⟨rfl,b4,Qu,BX,h2,Q⟩;have D:=O h2;have M2:=O (M1.o.trans Q);have L2:=O (L1.o.mw U.o Q);clear h2 Q;have I:=BE.o.text (aX ay r.st);have y:=BE.o.nodes (aX ay r.st);obtain⟨a,J⟩:∃ a,a=bB ay d (aX ay r.st):=⟨_,rfl⟩;rw [← J] at S D I y ⊢
    obtain⟨T,B⟩:∃ T,T=aN a.pc:=⟨_,rfl⟩;rw [aF] at y
    have a8:T.length≤100000:=by rw [B];exact Nat.le_trans I hL
    rw [← B];have Z:=O B;rw [← J] at l x
    clear B J I;have n:=O (L2.o.alloc (.cells #[.int .i64 a.ix] 3));have E:=O (D.o.alloc (.cells #[.int .i64 a.ix] 3));have F:=O (M2.o.dD (o:=(.cells #[.int .i64 a.ix] 3)));have u:=F.o.size;have b2:¬ 9223372036854775807 < Y.length+T.length:=by omega
    have a9:r.ix.length≤4:=by have:=q.o;omega
    go_wp2_with (at_builtin;go_loud (refine wpList_append_lies _ rfl (.tmp 36) (.tmp 38) 24 rfl 0 3 j0 (.int .i64 0) 1 8 Tryz.underlying24 a1 a4 a5 a6 rfl (by decide) _ r.ix.length (intCells r.ix) rfl n.o.row ⟨w2.heap.size,0,none⟩ 1 1 [.int .i64 a.ix] rfl rfl (cell_one_new _ _ _) (by simp [Value.oneCell']) (by omega) (by simp only [maxLen];omega) (by omega) (aaL _) _ rfl ?_);intro Kw CK Tx j f t C;have L3:=O (n.o.grow E.o j t u);have H3:=O (E.o.grow n.o f (fun b hb=>aaK (aaW a0 (n.o.lo b hb))));have M3:=O (F.o.grow n.o f);clear j f t C)
    clear n E F u L2 D M2
    exact⟨⟨k+1,_,_,_,_,_,_,by omega,by go_num,congrArg Value.string (congrArg aM (show Y ++ T=aN (r.pc ++ (bP [44] :: bN.on G a.pc)) by
     rw [qZ,HY.o,HX.o,Z.o]
     show _=aN r.pc ++ ([] ++ ([44] ++ aN (bN.on G a.pc)))
     rw [x.o];simp only [List.nil_append,List.append_assoc])),by rw [aaO];rfl,O (by rw [aaO,q.o];rfl),by
      rw [show aN (r.pc ++ (bP [44] :: bN.on G a.pc))=Y ++ T from by
       rw [qZ,HY.o,HX.o,Z.o]
       show aN r.pc ++ ([] ++ ([44] ++ aN (bN.on G a.pc)))=_
       rw [x.o];simp only [List.nil_append,List.append_assoc],aaO]
      omega,by show a.st.ns.length≤_;omega,O (by rw [U1.o,← S.o,W.o]),l,by rw [aaO];exact L3,H3,M3⟩,by simp [intOf];omega⟩
  ·obtain rfl:k=m:=by omega
   have a7:=O (show bK ay (bB ay d) k ⟨[],[],s⟩=r by rw [← W.o,Nat.sub_self];rfl);clear W;go_wp2_with fail;go_ret2
   rw [a7.o];exact⟨A,c,xs1,gW,oI,rfl,L.o,H.o,M.o⟩
end Go.Proofs.YthepmkjggfijoaaGreatDoor
namespace Mist
theorem one_le (g t:Bs)(k n:Nat)(a:g.length+t.length≤n):tl [(g,k,t)]≤n:=by
 rw [bT,fu];omega
theorem Nk (ay:Bool)(z:bC)(I:bN):tl (bN.on (bG ay z) I)≤8+tl I:=Nat.le_trans (F7 _ I) (Nat.add_le_add_right (mK ay z) _)
theorem kZ (s:bC)(n:Nd):(s.put n).ns.length=s.ns.length+1:=aaO
theorem uX (ay:Bool):∀ (d:Nat) (s:bC),tl (bF ay d s).pc≤14 * d+4∧(bF ay d s).st.ns.length≤s.ns.length+(d+1):=by
 have a:∀ (s:bC) (t:Bs) (k:Nat) (n:Nd),t.length≤4→tl (bH [([],k,t)] s.tl n).pc≤4∧(bH [([],k,t)] s.tl n).st.ns.length=s.ns.length+1:=fun s t k n c =>
  ⟨one_le [] t k 4 (by simpa using c),kZ _ _⟩
 intro d
 induction d with
 | zero =>
  intro s;rw [bF];split
  ·obtain⟨h1,h2⟩:=a s [105,110,116] 3 ⟨30,[],0,[],0⟩ (by decide);exact⟨by omega,by omega⟩
  split
  ·obtain⟨h1,h2⟩:=a s [98,111,111,108] 3 ⟨31,[],0,[],0⟩ (by decide);exact⟨by omega,by omega⟩
  ·obtain⟨h1,h2⟩:=a s (bA s.nx) 1 ⟨32,bA s.nx,0,[],0⟩ (iY _);exact⟨by omega,by omega⟩
 | succ d e =>
  intro s;rw [bF];split
  ·obtain⟨h1,h2⟩:=a s [105,110,116] 3 ⟨30,[],0,[],0⟩ (by decide);exact⟨by omega,by omega⟩
  split
  ·obtain⟨h1,h2⟩:=a s [98,111,111,108] 3 ⟨31,[],0,[],0⟩ (by decide);exact⟨by omega,by omega⟩
  split
  ·obtain⟨h1,h2⟩:=a s (bA s.nx) 1 ⟨32,bA s.nx,0,[],0⟩ (iY _);exact⟨by omega,by omega⟩
  ·simp only
   obtain⟨h1,h2⟩:=e s.tl;have h2:(bF ay d s.tl).st.ns.length≤s.ns.length+(d+1):=h2;have f:=mK ay (bF ay d s.tl).st.tl;have h:(bF ay d s.tl).st.nx % 6 < 6:=Nat.mod_lt _ (by decide);have b:=wF ⟨1+(bF ay d s.tl).st.nx % 6,by omega⟩
   refine⟨?_,?_⟩
   ·show tl (bP [91] :: ((bF ay d s.tl).pc ++ [(_,4,[59]),([],2,_),bP [93]]))≤_
    simp only [gZ,cK,bT,fu,List.length_cons,List.length_nil];simp only at b
    omega
   ·show (bC.put _ _).ns.length≤_
    rw [kZ,aF]
    show (bF ay d s.tl).st.ns.length+1≤_
    omega
theorem wI (ay:Bool):∀ (m:Nat) (r:pz),tl (bE ay m r).pc≤tl r.pc+m * 60∧(bE ay m r).st.ns.length≤r.st.ns.length+m * 4∧(bE ay m r).ix.length=r.ix.length+m
 | 0,r=>⟨by rw [bE];omega,by rw [bE];omega,rfl⟩
 | m+1,r=>by
  rw [bE];obtain⟨a,b⟩:∃ a,a=if r.ix=[] then r.st else aX ay r.st:=⟨_,rfl⟩
  have c:a.ns=r.st.ns:=by rw [b];split;rfl;exact aF ay r.st
  obtain⟨g,d⟩:∃ g:Bs,g=if r.ix=[] then [] else bG ay r.st:=⟨_,rfl⟩
  have f:g.length≤8:=by rw [d];split;(exact aaL _);exact mK ay r.st
  simp only [← b,← d];obtain⟨h1,h2⟩:=uX ay 2 a.tl;have h2:(bF ay 2 a.tl).st.ns.length≤r.st.ns.length+3:=by rw [← c];exact h2
  have h3:=Nk ay (bF ay 2 a.tl).st (bF ay 2 a.tl).pc;have h4:=iY a.nx
  have h:tl (if r.ix=[] then ((g,1,bA a.nx) :: bP [58] :: bN.on (bG ay (bF ay 2 a.tl).st) (bF ay 2 a.tl).pc:bN) else bP [44] :: (g,1,bA a.nx) :: bP [58] :: bN.on (bG ay (bF ay 2 a.tl).st) (bF ay 2 a.tl).pc)≤60:=by
   split
   ·rw [bT,gZ];simp only [aaT];omega
   ·rw [gZ,bT,gZ];simp only [aaT];omega
  have e:=wI ay m ⟨r.pc ++ (if r.ix=[] then ((g,1,bA a.nx) :: bP [58] :: bN.on (bG ay (bF ay 2 a.tl).st) (bF ay 2 a.tl).pc:bN) else bP [44] :: (g,1,bA a.nx) :: bP [58] :: bN.on (bG ay (bF ay 2 a.tl).st) (bF ay 2 a.tl).pc),r.ix ++ [(aX ay (bF ay 2 a.tl).st).id],(aX ay (bF ay 2 a.tl).st).put ⟨34,bA a.nx,0,[(bF ay 2 a.tl).ix],0⟩⟩;simp only [cK,aaO,aaT,kZ,aF] at e
  obtain⟨i,j,k⟩:=e;exact⟨by omega,by omega,by omega⟩
theorem lb4:Qn 4=10548:=rfl
theorem cb4:UN 4=681:=rfl
theorem lb3:Qn 3=2612:=rfl
theorem cb3:UN 3=169:=rfl
theorem zX (q:Nat)(h:q≤8):(sg jr q).length≤6:=by
 have:∀ g ∈ jr,g.length≤6:=by decide
 exact this _ (wD jr _ (by show q < 9;omega))
theorem QJ (ay:Bool)(q:Nat)(h:q≤8)(s:bC):tl (qz ay q s).pc≤11000∧(qz ay q s).st.ns.length≤s.ns.length+800:=by
 unfold qz;simp only
 obtain⟨m,d⟩:∃ m,m=if q=7 then 0 else if q=8 then 1+s.nx % 4 else 1:=⟨_,rfl⟩
 have c:m≤4:=by rw [d];split;omega;split <;> omega
 obtain⟨s1,a⟩:∃ s1,s1=if q=8 then s.tl else s:=⟨_,rfl⟩
 have e:s1.ns=s.ns:=by rw [a];split <;> rfl
 rw [← d,← a];obtain⟨j,b,_⟩:=wG ay (kM ay 3) m ⟨[],[],s1⟩;rw [fu,lb3] at j
 rw [cb3] at b
 have b:(bK ay (bB ay 3) m ⟨[],[],s1⟩).st.ns.length≤s.ns.length+m * 169:=by rw [← e];exact b
 have l:m * (2612+9)≤4 * (2612+9):=Nat.mul_le_mul_right _ c;have n:m * 169≤4 * 169:=Nat.mul_le_mul_right _ c;have k:=mK ay (bK ay (bB ay 3) m ⟨[],[],s1⟩).st;have i:=zX q h;have f:=F7 [32] (bK ay (bB ay 3) m ⟨[],[],s1⟩).pc
 refine⟨?_,?_⟩
 ·show tl (_ :: _ :: bN.on [32] _)≤_
  rw [bT,bT];simp only [List.length_cons,List.length_nil] at f ⊢
  omega
 ·show (bC.put _ _).ns.length≤_
  rw [kZ,aF];omega
theorem KP (n:Int)(h1:-140 < n)(h2:n < 140)(s:bC):tl (bX n s).pc≤4∧(bX n s).st.ns.length=s.ns.length+1:=⟨Ju n h1 h2,kZ _ _⟩
theorem YW (s:bC):pO s≤8:=by unfold pO;split <;> omega
theorem Wx (ay:Bool)(s:bC):tl (bZ ay s).pc≤11990∧(bZ ay s).st.ns.length≤s.ns.length+900:=by
 unfold bZ;simp only
 generalize D:s.tl.tl=a
 have u:a.ns=s.ns:=by rw [← D];rfl
 rw [← u];have L:=iY s.tl.nx
 generalize bA s.tl.nx=x at *
 have c:=mK ay;split
 ·unfold oG;simp only
  obtain⟨low,h⟩:∃ low:Int,low=((a.nx % 30:Nat):Int) - 15:=⟨_,rfl⟩;rw [← h];obtain⟨k,C⟩:∃ k,k=(bX low a.tl).st.nx % 12:=⟨_,rfl⟩;rw [← C];have h1:=KP low (by omega) (by omega) a.tl;have h2:=KP (low+(k:Int)) (by omega) (by omega) (bX low a.tl).st.tl;have y:(bX low a.tl).st.ns.length=a.ns.length+1:=h1.2;have A:(bX (low+(k:Int)) (bX low a.tl).st.tl).st.ns.length=(bX low a.tl).st.ns.length+1:=h2.2;have I:=Nk ay (bX (low+(k:Int)) (bX low a.tl).st.tl).st (bX low a.tl).pc;have M:=Nk ay (aX ay (aX ay (bX (low+(k:Int)) (bX low a.tl).st.tl).st)) (bX (low+(k:Int)) (bX low a.tl).st.tl).pc;have l:=c (aX ay (bX (low+(k:Int)) (bX low a.tl).st.tl).st);unfold bH
  refine⟨?_,?_⟩
  ·simp only [bT,gZ,cK,List.length_cons,List.length_nil];omega
  ·show (bC.put _ _).ns.length≤_
   rw [kZ,aF,aF,aF];omega
 split
 ·unfold Ah bH;simp only
  obtain⟨j,d,_⟩:=wI ay (1+a.nx % 6) ⟨[],[],a.tl⟩;rw [fu] at j
  have d:(bE ay (1+a.nx % 6) ⟨[],[],a.tl⟩).st.ns.length≤a.ns.length+(1+a.nx % 6) * 4:=d
  refine⟨?_,?_⟩
  ·simp only [bT,gZ,cK,fu,List.length_cons,List.length_nil];omega
  ·show (bC.put _ _).ns.length≤_
   rw [kZ];omega
 split
 ·unfold BG bH;simp only
  obtain⟨j,d,_⟩:=wI ay (a.nx % 5) ⟨[],[],a.tl⟩;rw [fu] at j
  have d:(bE ay (a.nx % 5) ⟨[],[],a.tl⟩).st.ns.length≤a.ns.length+(a.nx % 5) * 4:=d;have q:a.nx % 5 < 5:=Nat.mod_lt _ (by decide)
  generalize a.nx % 5=m at j d q ⊢
  generalize bE ay m ⟨[],[],a.tl⟩=r at j d ⊢
  obtain⟨G,H⟩:=uX ay 2 r.st
  generalize bF ay 2 r.st=t at G H ⊢
  have E:=YW t.st
  generalize pO t.st=n at E ⊢
  obtain⟨s1,i⟩:∃ s1,s1=if 0 < n then aX ay t.st.tl else t.st.tl:=⟨_,rfl⟩
  have v:s1.ns=t.st.ns:=by rw [i];split;(rw [aF];rfl);rfl
  have F:tl (if 0 < n then ([([32],3,[117,112,116,111]),(bG ay t.st.tl,2,Go.Lib.itoa (n:Int))]:bN) else [])≤20:=by
   split
   ·have B:=wF ⟨n,by omega⟩;have l:=c t.st.tl;simp only at B
    rw [bT,bT,fu];simp only [List.length_cons,List.length_nil];omega
   ·rw [fu];omega
  rw [← i];have e:=(kM ay 4).text s1;have f:=(kM ay 4).nodes s1;rw [lb4] at e
  rw [cb4,v] at f
  generalize bB ay 4 s1=b at e f ⊢
  have l:=c b.st;have J:=c (aX ay b.st);have K:=c (aX ay (aX ay b.st))
  refine⟨?_,?_⟩
  ·simp only [bT,gZ,cK,fu,List.length_cons,List.length_nil];omega
  ·show (bC.put _ _).ns.length≤_
   rw [kZ,aF,aF,aF];omega
 split
 ·unfold mM bH;simp only
  have e:=(kM ay 4).text a;have f:=(kM ay 4).nodes a;rw [lb4] at e
  rw [cb4] at f
  have I:=Nk ay (bB ay 4 a).st (bB ay 4 a).pc
  refine⟨?_,?_⟩
  ·simp only [bT,gZ,List.length_cons,List.length_nil];omega
  ·show (bC.put _ _).ns.length≤_
   rw [kZ,aF];omega
 split
 ·unfold ng bH;simp only
  have e:=(kM ay 4).text a;have f:=(kM ay 4).nodes a;rw [lb4] at e
  rw [cb4] at f
  have l:=c (bB ay 4 a).st
  refine⟨?_,?_⟩
  ·simp only [bT,List.length_cons,List.length_nil];omega
  ·show (bC.put _ _).ns.length≤_
   rw [kZ,aF];omega
 split
 ·unfold oP bH;have l:=c a
  refine⟨?_,?_⟩
  ·simp only [bT,fu,List.length_cons,List.length_nil];omega
  ·show (bC.put _ _).ns.length≤_
   rw [kZ,aF];omega
 ·obtain⟨h1,h2⟩:=QJ ay (1+a.nx % 8) (by omega) a.tl;have h2:(qz ay (1+a.nx % 8) a.tl).st.ns.length≤a.ns.length+800:=h2;exact⟨by omega,by omega⟩
theorem Jj (ay:Bool)(s:bC):tl (dM ay s).pc≤12000∧(dM ay s).st.ns.length≤s.ns.length+900:=by
 obtain⟨h1,h2⟩:=Wx ay s;unfold dM;simp only
 refine⟨?_,by rw [aF];exact h2⟩
 have b:(dQ s).length≤1:=by unfold dQ;split <;> simp
 have a:=mK ay (bZ ay s).st;rw [cK,bT,fu,aaO];simp only [List.length_cons,List.length_nil];omega
end Mist
namespace Go.Proofs.YthepmkjggfijoaaGreatDoor
open Go.RowKit Mist
attribute [local go_sem] aj aH aS aB ak
def ab3 (ay:Bool)(d N:Nat):Prop:=∀ (g:Nat) (iv:Value) (w:World) (s:bC) (xs:List NV) (nv lv:Value),dY g ay iv w s xs nv lv→s.ns.length≤N →
 Calls Tryz.prog 116 #[.pointer (some ⟨g,0,none⟩),.int .i64 (d:Int)] w (lg g ay iv w xs nv (bF ay d s))
theorem Sz (ay:Bool)(d:Int)(g:Nat)(iv:Value)(w:World)(s:bC)(r:s.nx % 4=0)  (xs:List NV)(nv lv:Value)(h:dY g ay iv w s xs nv lv)(q:s.ns.length≤900000) :
  Calls Tryz.prog 116 #[.pointer (some ⟨g,0,none⟩),.int .i64 d] w (lg g ay iv w xs nv (bH [([],3,[105,110,116])] s.tl ⟨30,[],0,[],0⟩)):=by
 have a:=O h;have b:=O (iL.refl (g:=g) (w:=w) (xs:=xs) (nv:=nv));clear h;have k:s.tl.ns.length=s.ns.length:=rfl;have l:Int.tmod (s.nx:Int) 4=0:=by rw [Int.tmod_eq_emod_of_nonneg (by omega)];omega
 go_in
 go_wp2_with fail;refine (bU g ay _ _ (s) _ _ _ a.o).mono ?_;rintro e w1⟨rfl,t,h,m⟩;have c:=O h;have i:=O (b.o.D7 m);clear h m a b;go_wp2_with fail;refine (dH g ay _ _ ((s).tl) _ _ _ c.o 30 [] 0 _ [] (cB.none_ _) (by first | omega|(simp only [aF,bV];omega))).mono ?_;rintro e w2⟨rfl,n,h,m⟩;have f:=O h;have j:=O (i.o.wB (x:=(⟨30,[],0,[],0⟩,(.slice none 0 0))) m pQ);clear h m;go_wp2_with fail;go_ret2
 refine⟨?_,_,_,_,f.o,j.o⟩
 show _=Ending.returned (.tuple #[.string (aM (aN [([],3,[105,110,116])])),.int .i64 ((s).tl).id])
 rw [kS];rfl
theorem MU (ay:Bool)(d:Int)(g:Nat)(iv:Value)(w:World)(s:bC)(r:s.nx % 4=1)  (xs:List NV)(nv lv:Value)(h:dY g ay iv w s xs nv lv)(q:s.ns.length≤900000) :
  Calls Tryz.prog 116 #[.pointer (some ⟨g,0,none⟩),.int .i64 d] w (lg g ay iv w xs nv (bH [([],3,[98,111,111,108])] s.tl ⟨31,[],0,[],0⟩)):=by
 have a:=O h;have b:=O (iL.refl (g:=g) (w:=w) (xs:=xs) (nv:=nv));clear h;have k:s.tl.ns.length=s.ns.length:=rfl;have l:Int.tmod (s.nx:Int) 4=1:=by rw [Int.tmod_eq_emod_of_nonneg (by omega)];omega
 go_in
 go_wp2_with fail;refine (bU g ay _ _ (s) _ _ _ a.o).mono ?_;rintro e w1⟨rfl,t,h,m⟩;have c:=O h;have i:=O (b.o.D7 m);clear h m a b;go_wp2_with fail;refine (dH g ay _ _ ((s).tl) _ _ _ c.o 31 [] 0 _ [] (cB.none_ _) (by first | omega|(simp only [aF,bV];omega))).mono ?_;rintro e w2⟨rfl,n,h,m⟩;have f:=O h;have j:=O (i.o.wB (x:=(⟨31,[],0,[],0⟩,(.slice none 0 0))) m pQ);clear h m;go_wp2_with fail;go_ret2
 refine⟨?_,_,_,_,f.o,j.o⟩
 show _=Ending.returned (.tuple #[.string (aM (aN [([],3,[98,111,111,108])])),.int .i64 ((s).tl).id])
 rw [kS];rfl
theorem MX (ay:Bool)(d:Int)(g:Nat)(iv:Value)(w:World)(s:bC)(q:s.nx % 4=2)  (xs:List NV)(nv lv:Value)(h:dY g ay iv w s xs nv lv)(n:s.ns.length≤900000) :
  Calls Tryz.prog 116 #[.pointer (some ⟨g,0,none⟩),.int .i64 d] w (lg g ay iv w xs nv (bH [([],1,bA s.nx)] s.tl ⟨32,(bA s.nx),0,[],0⟩)):=by
 have a:=O h;have b:=O (iL.refl (g:=g) (w:=w) (xs:=xs) (nv:=nv));clear h;have k:s.tl.ns.length=s.ns.length:=rfl;have l:Int.tmod (s.nx:Int) 4=2:=by rw [Int.tmod_eq_emod_of_nonneg (by omega)];omega
 go_in
 go_wp2_with fail;refine (bU g ay _ _ (s) _ _ _ a.o).mono ?_;rintro e w1⟨rfl,r,h,m⟩;have c:=O h;have i:=O (b.o.D7 m);clear h m a b;go_wp2_with fail;refine (fD (s.nx) _).mono ?_;rintro e w2⟨rfl,rfl⟩;go_wp2_with fail;refine (fD (s.nx) _).mono ?_;rintro e t⟨rfl,rfl⟩;go_wp2_with fail;refine (dH g ay _ _ ((s).tl) _ _ _ c.o 32 (bA s.nx) 0 _ [] (cB.none_ _) (by first | omega|(simp only [aF,bV];omega))).mono ?_;rintro e u⟨rfl,v,h,m⟩;have f:=O h;have j:=O (i.o.wB (x:=(⟨32,(bA s.nx),0,[],0⟩,(.slice none 0 0))) m pQ);clear h m;go_wp2_with fail;go_ret2
 refine⟨?_,_,_,_,f.o,j.o⟩
 show _=Ending.returned (.tuple #[.string (aM (aN [([],1,bA s.nx)])),.int .i64 ((s).tl).id])
 rw [kS];rfl
theorem SA (ay:Bool)(d:Int)(g:Nat)(iv:Value)(w:World)(s:bC)(q:s.nx % 4=3)(hd:d=0)  (xs:List NV)(nv lv:Value)(h:dY g ay iv w s xs nv lv)(n:s.ns.length≤900000) :
  Calls Tryz.prog 116 #[.pointer (some ⟨g,0,none⟩),.int .i64 d] w (lg g ay iv w xs nv (bH [([],1,bA s.nx)] s.tl ⟨32,(bA s.nx),0,[],0⟩)):=by
 have a:=O h;have b:=O (iL.refl (g:=g) (w:=w) (xs:=xs) (nv:=nv));clear h;have k:s.tl.ns.length=s.ns.length:=rfl;have l:Int.tmod (s.nx:Int) 4=3:=by rw [Int.tmod_eq_emod_of_nonneg (by omega)];omega
 subst hd;go_in
 go_wp2_with fail;refine (bU g ay _ _ (s) _ _ _ a.o).mono ?_;rintro e w1⟨rfl,r,h,m⟩;have c:=O h;have i:=O (b.o.D7 m);clear h m a b;go_wp2_with fail;refine (fD (s.nx) _).mono ?_;rintro e w2⟨rfl,rfl⟩;go_wp2_with fail;refine (fD (s.nx) _).mono ?_;rintro e t⟨rfl,rfl⟩;go_wp2_with fail;refine (dH g ay _ _ ((s).tl) _ _ _ c.o 32 (bA s.nx) 0 _ [] (cB.none_ _) (by first | omega|(simp only [aF,bV];omega))).mono ?_;rintro e u⟨rfl,v,h,m⟩;have f:=O h;have j:=O (i.o.wB (x:=(⟨32,(bA s.nx),0,[],0⟩,(.slice none 0 0))) m pQ);clear h m;go_wp2_with fail;go_ret2
 refine⟨?_,_,_,_,f.o,j.o⟩
 show _=Ending.returned (.tuple #[.string (aM (aN [([],1,bA s.nx)])),.int .i64 ((s).tl).id])
 rw [kS];rfl
theorem WA (ay:Bool)(d N:Nat)(hN:N≤900000)(a1:d≤2)(X:ab3 ay d (N+10))(g:Nat)(iv:Value)(w:World)(s:bC)(xs:List NV)(nv lv:Value)(h:dY g ay iv w s xs nv lv)(hn:s.ns.length≤N)(hr:s.nx % 4=3) :
  Calls Tryz.prog 116 #[.pointer (some ⟨g,0,none⟩),.int .i64 ((d:Int)+1)] w (lg g ay iv w xs nv (bF ay (d+1) s)):=by
 have J:=O h;have P:=O (iL.refl (g:=g) (w:=w) (xs:=xs) (nv:=nv));clear h;have a4:s.tl.ns.length=s.ns.length:=rfl;have EN:Int.tmod (s.nx:Int) 4=3:=by rw [Int.tmod_eq_emod_of_nonneg (by omega)];omega
 have a7:¬ ((d:Int)+1≤0):=by omega
 have zd:IntKind.i64.wrap ((d:Int)+1 - 1)=(d:Int):=by rw [Int.add_sub_cancel];exact IntWalk.i64_in _ ⟨by omega,by omega⟩
 have A:=O X;have y:=O (show ∀ z,tl (bF ay d z).pc≤100∧(bF ay d z).st.ns.length≤z.ns.length+(d+1) from fun z=>⟨Nat.le_trans (uX ay d z).1 (by omega),(uX ay d z).2⟩);clear X;go_in
 go_wp2_with fail;refine (bU g ay _ _ (s) _ _ _ J.o).mono ?_;rintro e w1⟨rfl,oI,h,m⟩;have K:=O h;have Q:=O (P.o.D7 m);clear h m J P;go_wp2_with fail;refine (A.o g _ _ (s.tl) _ _ _ K.o (by first | omega|(simp only [aF];omega))).mono ?_;rintro e w2⟨rfl,a6,Qu,BX,h,m⟩;have t:=O h;have R:=O (Q.o.trans m);clear h m K Q;obtain⟨D,W⟩:=y.o (s.tl);obtain⟨b,j⟩:∃ a,a=bF ay d (s.tl):=⟨_,rfl⟩;rw [← j] at t D W ⊢
 obtain⟨f,n⟩:∃ T,T=aN b.pc:=⟨_,rfl⟩;have a5:f.length≤100:=by rw [n];exact D
 rw [← n];have v:=O j;have B:=O n;clear j n D
 (try simp only [aF] at W)
 obtain⟨q,I⟩:∃ q,q=b.st.nx % 6:=⟨_,rfl⟩;have zq:Int.tmod (b.st.nx:Int) 6=(q:Int):=by rw [Int.tmod_eq_emod_of_nonneg (by omega),I];omega
 have HQ:=O I;have a3:q≤5:=by omega
 clear I;have a8:IntKind.i64.wrap (1+(q:Int))=((1+q:Nat):Int):=by rw [IntWalk.i64_in _ (by omega)];omega
 have l:=wF ⟨1+q,by omega⟩;simp only at l
 go_wp2_with fail;refine (bU g ay _ _ (b.st) _ _ _ t.o).mono ?_;rintro e w3⟨rfl,OY,h,m⟩;have L:=O h;have S:=O (R.o.D7 m);clear h m t R;have Z:b.st.tl.ns.length=b.st.ns.length:=rfl;go_wp2_with fail;refine (dF g ay _ _ (b.st.tl) _ _ _ L.o).mono ?_;rintro e w4⟨rfl,KF,h,m⟩;have u:=O h;have V:=O (S.o.D7 m);clear h m L S;have E:=eU ay (b.st.tl);obtain⟨c,i⟩:∃ G,G=bG ay (b.st.tl):=⟨_,rfl⟩;rw [← i] at E ⊢
 have Jf:=O i;clear i;go_wp2_with fail;refine (vw (((1+q:Nat):Int)) (by omega) (by omega) g ay _ _ (aX ay (b.st.tl)) _ _ _ u.o).mono ?_;rintro e w5⟨rfl,k⟩;have M:=O (u.o.below k);have C:=O (V.o.aL k);clear k u V;obtain⟨U,F⟩:∃ U,U=Go.Lib.itoa ((1+q:Nat):Int):=⟨_,rfl⟩;rw [← F] at l ⊢
 have HU:=O F;clear F;have Ih:¬ 9223372036854775807 < 1+f.length:=by omega
 have Ik:¬ 9223372036854775807 < 1+f.length+c.length:=by omega
 have JZ:¬ 9223372036854775807 < 1+f.length+c.length+1:=by omega
 have Kn:¬ 9223372036854775807 < 1+f.length+c.length+1+U.length:=by omega
 have a0:¬ 9223372036854775807 < 1+f.length+c.length+1+U.length+1:=by omega
 have Vm:=O (Mx w5 [b.ix]);have HK:=O (M.o.alloc (.cells (intCells [b.ix]).toArray 3));have Vo:=O (C.o.dD (o:=.cells (intCells [b.ix]).toArray 3));have H:=C.o.size;clear M C;go_wp2_with fail;obtain⟨Y,r⟩:∃ Y:Bs,Y=[91] ++ f ++ c ++ [59] ++ U ++ [93]:=⟨_,rfl⟩;rw [show (⟨#[91]⟩:ByteArray) ++ aM (f) ++ aM (c) ++ (⟨#[59]⟩:ByteArray) ++ aM (U) ++ (⟨#[93]⟩:ByteArray)=aM Y from by rw [r] <;> (simp only [← ak];rfl)];have BF:Y.length≤10000000:=by rw [r];simp only [aaO,List.length_cons,List.length_nil];omega
 have HY:=O r;clear r;refine (dH g ay _ _ (aX ay (b.st.tl)) _ _ _ HK.o 33 [] ((1+q:Nat):Int) _ [b.ix] Vm.o (by first | omega|(simp only [aF,bV];omega))).mono ?_;rintro e w6⟨rfl,XB,h,m⟩;have H6:=O h;have M6:=O (Vo.o.wB (x:=(⟨33,[],((1+q:Nat):Int),[b.ix],0⟩,(.slice (some ⟨w5.heap.size,0,none⟩) 1 1))) m (EM H));clear h m;go_wp2_with fail;go_ret2
 have HF:=O (show bF ay (d+1) s=bH (bP [91] :: (b.pc ++ [(c,4,[59]),([],2,U),bP [93]])) (aX ay (b.st.tl)) ⟨33,[],((1+q:Nat):Int),[b.ix],0⟩ from by
  rw [bF,if_neg (by omega),if_neg (by omega),if_neg (by omega)];simp only
  rw [← v.o,← Jf.o,← HQ.o,← HU.o])
 rw [HF.o]
 refine⟨?_,_,_,_,H6.o,M6.o⟩
 show _=Ending.returned (.tuple #[.string (aM (aN (bP [91] :: (b.pc ++ [(c,4,[59]),([],2,U),bP [93]])))),.int .i64 (aX ay (b.st.tl)).id])
 have HI:=(show aN (bP [91] :: (b.pc ++ [(c,4,[59]),([],2,U),bP [93]]))=Y from by
  simp only [aN,qZ,bP];rw [HY.o,B.o];simp only [List.nil_append,List.append_nil,List.append_assoc,List.cons_append])
 rw [HI];rfl
theorem OV (ay:Bool)(N:Nat)(a:N≤900000):ab3 ay 0 N:=by
 intro g iv w s xs nv lv h b;by_cases h0:s.nx % 4=0
 ·rw [show bF ay 0 s=bH [([],3,[105,110,116])] s.tl ⟨30,[],0,[],0⟩ by rw [bF,if_pos h0]];exact Sz ay _ g iv w s h0 xs nv lv h (by omega)
 by_cases h1:s.nx % 4=1
 ·rw [show bF ay 0 s=bH [([],3,[98,111,111,108])] s.tl ⟨31,[],0,[],0⟩ by rw [bF,if_neg h0,if_pos h1]];exact MU ay _ g iv w s h1 xs nv lv h (by omega)
 rw [show bF ay 0 s=bH [([],1,bA s.nx)] s.tl ⟨32,bA s.nx,0,[],0⟩ by rw [bF,if_neg h0,if_neg h1]];by_cases h2:s.nx % 4=2
 ·exact MX ay _ g iv w s h2 xs nv lv h (by omega)
 ·exact SA ay _ g iv w s (by omega) rfl xs nv lv h (by omega)
theorem EP (ay:Bool)(d N:Nat)(c:N≤900000)(a:d≤2)(b:ab3 ay d (N+10)):ab3 ay (d+1) N:=by
 intro g iv w s xs nv lv h e;by_cases h0:s.nx % 4=0
 ·rw [show bF ay (d+1) s=bH [([],3,[105,110,116])] s.tl ⟨30,[],0,[],0⟩ by rw [bF,if_pos h0]];exact Sz ay _ g iv w s h0 xs nv lv h (by omega)
 by_cases h1:s.nx % 4=1
 ·rw [show bF ay (d+1) s=bH [([],3,[98,111,111,108])] s.tl ⟨31,[],0,[],0⟩ by rw [bF,if_neg h0,if_pos h1]];exact MU ay _ g iv w s h1 xs nv lv h (by omega)
 by_cases h2:s.nx % 4=2
 ·rw [show bF ay (d+1) s=bH [([],1,bA s.nx)] s.tl ⟨32,bA s.nx,0,[],0⟩ by rw [bF,if_neg h0,if_neg h1,if_pos h2]];exact MX ay _ g iv w s h2 xs nv lv h (by omega)
 ·exact WA ay d N c a b g iv w s xs nv lv h e (by omega)
theorem vo (ay:Bool):ab3 ay 2 800000:=EP ay 1 _ (by omega) (by omega) (EP ay 0 _ (by omega) (by omega) (OV ay _ (by omega)))
end Go.Proofs.YthepmkjggfijoaaGreatDoor
