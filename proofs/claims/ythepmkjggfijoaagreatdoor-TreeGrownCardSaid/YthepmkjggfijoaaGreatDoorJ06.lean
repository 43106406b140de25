/-
  A part of the proof.
-/
import Derived.Test.YthepmkjggfijoaaGreatDoorSA
import Derived.Deep.RegionHeld3
import Derived.Test.YthepmkjggfijoaaGreatDoorShelf
import Derived.Test.YthepmkjggfijoaaGreatDoorS21
import Derived.Test.YthepmkjggfijoaaGreatDoorJ03
import Derived.Test.YthepmkjggfijoaaGreatDoorJ05
set_option linter.all false
set_option maxRecDepth 100000
set_option maxHeartbeats 4000000
namespace Go.Proofs.YthepmkjggfijoaaGreatDoor
open Go.RowKit Mist
attribute [local go_sem] aj aH aS aB ak
theorem grow_low (w:World)(k:Nat)(os:Array Obj):Below w.heap.size w (Go.Sort.grow (w.drewN k) os) :=
 ⟨rfl,rfl,rfl,by show w.heap.size≤(w.heap ++ os).size;rw [Array.size_append];omega,fun b a=>Array.getElem?_append_left a⟩
theorem plItoa_any (n:Int)(h0:-1000000≤n)(h1:n≤1000000)(g:Nat)(wild:Bool)(iv:Value)(w:World)(s:abd)(xs:List NV)(nv lv:Value)(h:abH g wild iv w s xs nv lv) :
  Calls Tryz.prog 77 #[.int .i64 n] w fun e a=>e=.returned (.string (aM (Go.Lib.itoa n)))∧Below w.heap.size w a:=by
 refine (Tryz.strconv_Itoa n (by omega) (by omega) w h.pow.here).mono ?_;rintro e a ⟨rfl,k,os,rfl⟩;exact⟨rfl,grow_low w k os⟩
def GPost (g:Nat)(wild:Bool)(iv:Value)(w:World)(xs:List NV)(nv:Value)(r:abb)(e:Ending)(w':World):Prop :=
 e=.returned (.tuple #[.string (aM (aN r.pc)),.int .i64 r.ix])∧∃ xs' eO lv',abH g wild iv w' r.st xs' eO lv'∧abJ g w xs nv w' xs' eO
def abO (wild:Bool)(d N:Nat):Prop:=∀ (g:Nat) (iv:Value) (w:World) (s:abd) (xs:List NV) (nv lv:Value),abH g wild iv w s xs nv lv→s.ns.length≤N →
 Calls Tryz.prog 117 #[.pointer (some ⟨g,0,none⟩),.int .i64 (d:Int)] w (GPost g wild iv w xs nv (acN wild d s))
section
variable {g:Nat} {wild:Bool} {iv:Value} {w w1 w2:World} {xs xs1:List NV} {nv gW lv:Value} {s s1:abd}
theorem abJ.of_mv (xs:List NV)(m:Mv g nv.ownBlock w nv.ownBlock w1):abJ g w xs nv w1 xs nv:=⟨m,[],by simp,fun y hy=>by cases hy⟩
theorem abJ.mvp (h:abJ g w xs nv w1 xs1 gW)(k:Mv g gW.ownBlock w1 gW.ownBlock w2):abJ g w xs nv w2 xs1 gW:=⟨h.mv.trans k,h.new⟩
theorem abJ.putp {d:Value}{x:NV}(h:abJ g w xs nv w1 xs1 gW)(k:Mv g gW.ownBlock w1 d.ownBlock w2)(f:∀ b,x.2.ownBlock=some b→w.heap.size≤b):abJ g w xs nv w2 (xs1 ++ [x]) d:=by
 obtain⟨ys,e,hy⟩:=h.new
 refine⟨h.mv.trans k,ys ++ [x],by rw [e,List.append_assoc],fun y a b c=>?_⟩
 rcases List.mem_append.1 a with a | a
 ·exact hy y a b c
 ·rw [List.mem_singleton.1 a] at c;exact f b c
end
theorem run_bools (r:Nat)(h:r < 2)(w:World):Sem.run Tryz.prog (Instr.index 90 (.agg #[.string ⟨#[102,97,108,115,101]⟩,.string ⟨#[116,114,117,101]⟩]) (.int .i64 r)) w=.ok (.string (aM (if r=0 then [102,97,108,115,101] else [116,114,117,101]))) w:=by
 obtain rfl | rfl:r=0∨r=1:=by omega
 all_goals kernel_rfl
theorem numPc_text (n:Int):aN (numPc n)=Go.Lib.itoa n:=by
 unfold numPc;split
 ·rename_i h
  show [] ++ ([45] ++ ([] ++ (Go.Lib.itoa (-n) ++ [])))=_
  unfold Go.Lib.itoa;rw [if_pos h,if_neg (by omega)];simp only [List.nil_append,List.append_nil];rw [show (-n).toNat=n.natAbs by omega];rfl
 ·show [] ++ (Go.Lib.itoa n ++ [])=_
  simp
theorem itemText_one (g:Bs)(k:Nat)(t:Bs):aN [(g,k,t)]=g ++ t:=by show g ++ (t ++ [])=_;rw [List.append_nil]
theorem expr_leaf (d:Int)(hd:0≤d)(g:Nat)(wild:Bool)(iv:Value)(w:World)(s:abd)(xs:List NV)(nv lv:Value)(h:abH g wild iv w s xs nv lv)(X:s.ns.length≤950000)(b:Nat)(W:b < 60)(l:(d=0∧b=s.nx % 60)∨(0 < d∧b=s.nx)) :
  Calls Tryz.prog 117 #[.pointer (some ⟨g,0,none⟩),.int .i64 d] w (GPost g wild iv w xs nv (leafG b s.tl)):=by
 have H:=O h;clear h;have Q:=O (show (d=0∧b=s.nx % 60)∨(0 < d∧b=s.nx) from l);have n:s.tl.ns.length≤1000000:=by show s.ns.length≤_;omega
 have m:∃ x:Nat,s.nx=x∧((d=0∧Int.tmod (x:Int) 60=(b:Int))∨(0 < d∧b=x)):=⟨s.nx,rfl,by
  rcases l with ⟨h1,h2⟩ | ⟨h1,h2⟩
  ·exact .inl ⟨h1,by rw [Int.tmod_eq_emod_of_nonneg (by omega),h2];omega⟩
  ·exact .inr ⟨h1,h2⟩⟩
 obtain⟨x,M,D⟩:=m;have B:=O M;clear l M Q;by_cases h20:b < 20
 ·have q:=O (show leafG b s.tl=acV (numPc ((b:Int) * 7)) s.tl ⟨1,[],(b:Int) * 7,[],0⟩ by unfold leafG;rw [if_pos h20,show ((b * 7:Nat):Int)=(b:Int) * 7 by omega]);have G:(b:Int) < 20:=by omega
  have S:IntKind.i64.wrap ((b:Int) * 7)=(b:Int) * 7:=IntWalk.i64_in _ (by omega);go_in
  go_wp2_with fail;refine (plNext_any g wild iv _ s xs nv lv H.o).mono ?_;rintro e w1⟨rfl,a,h1,i⟩;have j:=O h1;have v:=O (abJ.of_mv xs i);clear h1 i;rw [B.o];rcases D with ⟨rfl,K⟩ | ⟨A,rfl⟩
  all_goals
   go_wp2_with fail;refine (plItoa_any _ (by omega) (by omega) g wild iv _ s.tl xs nv a j.o).mono ?_;rintro e w2⟨rfl,k⟩;have P:=O (j.o.below k);have R:=O (v.o.aL k);clear k;go_wp2_with fail;refine (plPut_any g wild iv _ s.tl xs nv a P.o 1 [] _ _ [] (cB.none_ _) n).mono ?_;rintro e N⟨rfl,t,h3,f⟩;have u:=O h3;have y:=O (R.o.putp (x:=(⟨1,[],(b:Int) * 7,[],0⟩,.slice none 0 0)) f gw_none);clear h3 f;go_wp2_with fail;go_ret2
   rw [q.o];exact⟨by show _=Ending.returned (.tuple #[.string (aM (aN (numPc ((b:Int) * 7)))),.int .i64 s.tl.id]);rw [numPc_text];rfl,_,t,a,u.o,y.o⟩
 have G:¬ (b:Int) < 20:=by omega
 by_cases J:b < 30
 ·obtain⟨r,E⟩:∃ r,r=b % 2:=⟨_,rfl⟩;have q:=O (show leafG b s.tl=acV [([],3,if r=0 then [102,97,108,115,101] else [116,114,117,101])] s.tl ⟨2,[],(r:Int),[],0⟩ by unfold leafG;rw [if_neg h20,if_pos J,E]);have I:(b:Int) < 30:=by omega
  have U:Int.tmod (b:Int) 2=(r:Int):=by rw [Int.tmod_eq_emod_of_nonneg (by omega),E];omega
  have F:r < 2:=by omega
  have c:=run_bools r F;obtain⟨T,C⟩:∃ T:Bs,T=if r=0 then [102,97,108,115,101] else [116,114,117,101]:=⟨_,rfl⟩
  rw [← C] at q
  have L:∀ w,Sem.run Tryz.prog (Instr.index 90 (.agg #[.string ⟨#[102,97,108,115,101]⟩,.string ⟨#[116,114,117,101]⟩]) (.int .i64 r)) w=.ok (.string (aM T)) w:=by rw [C];exact c
  clear c;have Y:(0:Int)≤(r:Int):=by omega
  have Z:(r:Int) < 2:=by omega
  clear E C;go_in
  go_wp2_with fail;refine (plNext_any g wild iv _ s xs nv lv H.o).mono ?_;rintro e w1⟨rfl,a,h1,i⟩;have j:=O h1;have v:=O (abJ.of_mv xs i);clear h1 i;rw [B.o];rcases D with ⟨rfl,K⟩ | ⟨A,rfl⟩
  all_goals
   go_wp2_with fail;go_region_held3 (fun _=>True) (trivial) ((go_at_call 114;refine (plPut_any g wild iv _ s.tl xs nv a (by first | exact j.o | exact j.o.drew) 2 [] _ _ [] (cB.none_ _) n).mono ?_;rintro e N⟨rfl,t,h3,f⟩;have u:=O h3;have y:=O (v.o.putp (x:=(⟨2,[],(r:Int),[],0⟩,.slice none 0 0)) (by first | exact f | exact (Mv.Zp Mv.refl).trans f) gw_none);clear h3 f))
   all_goals
    go_wp2_with fail;go_ret2
    rw [q.o];exact⟨by show _=Ending.returned (.tuple #[.string (aM (aN [([],3,T)])),.int .i64 s.tl.id]);rw [itemText_one];rfl,_,t,a,u.o,y.o⟩
 have I:¬ (b:Int) < 30:=by omega
 have q:=O (show leafG b s.tl=acV [([],1,acM b)] s.tl ⟨3,acM b,0,[],0⟩ by unfold leafG;rw [if_neg h20,if_neg J]);have V:(b:Int) < 60:=by omega
 go_in
 go_wp2_with fail;refine (plNext_any g wild iv _ s xs nv lv H.o).mono ?_;rintro e w1⟨rfl,a,h1,i⟩;have j:=O h1;have v:=O (abJ.of_mv xs i);clear h1 i;rw [B.o];rcases D with ⟨rfl,K⟩ | ⟨A,rfl⟩
 all_goals
  go_wp2_with fail;refine (plWord_any b _).mono ?_;rintro e w2⟨rfl,rfl⟩;go_wp2_with fail;refine (plWord_any b _).mono ?_;rintro e w2⟨rfl,rfl⟩;go_wp2_with fail;refine (plPut_any g wild iv _ s.tl xs nv a j.o 3 (acM b) _ _ [] (cB.none_ _) n).mono ?_;rintro e N⟨rfl,t,h3,f⟩;have u:=O h3;have y:=O (v.o.putp (x:=(⟨3,acM b,0,[],0⟩,.slice none 0 0)) f gw_none);clear h3 f;go_wp2_with fail;go_ret2
  rw [q.o];exact⟨by show _=Ending.returned (.tuple #[.string (aM (aN [([],1,acM b)])),.int .i64 s.tl.id]);rw [itemText_one];rfl,_,t,a,u.o,y.o⟩
end Go.Proofs.YthepmkjggfijoaaGreatDoor
namespace Go.Proofs.YthepmkjggfijoaaGreatDoor
open Go.RowKit Mist
attribute [local go_sem] aj aH aS aB ak
theorem on_text {I:Pcs}(h:abe I)(g:Bs):aN (Pcs.on g I)=g ++ aN I:=h.start.text g
def LiPost (g:Nat)(wild:Bool)(iv:Value)(w:World)(xs:List NV)(nv:Value)(r:aa')(e:Ending)(w':World):Prop :=
 ∃ A c xs' eO lv',e=.returned (.tuple #[.string (aM (aN r.pc)),.slice A r.ix.length c])∧abK w w' xs' (.slice A r.ix.length c) r.ix∧abH g wild iv w' r.st xs' eO lv'∧abJ g w xs nv w' xs' eO
theorem d_le_Lb:∀ d,d≤abN d
 | 0=>aaL _
 | d+1=>by have:=d_le_Lb d;unfold abN;omega
theorem plList_any (wild:Bool)(d:Nat)(N:Nat)(hN:N≤900000)(hE:abO wild d (N+50000))(hL:abN d≤100000)(hC:abM d≤10000)(m:Nat)(hm:m≤4)(g:Nat)(iv:Value)(w:World)(s:abd)(xs:List NV)(nv lv:Value)(h:abH g wild iv w s xs nv lv)(hn:s.ns.length≤N) :
  Calls Tryz.prog 176 #[.pointer (some ⟨g,0,none⟩),.int .i64 (m:Int),.int .i64 ((d:Int)+1)] w (LiPost g wild iv w xs nv (acU wild (acN wild d) m ⟨[],[],s⟩)):=by
 have H0:=O h;have M0:=O (abJ.refl (g:=g) (w:=w) (xs:=xs) (nv:=nv));clear h;have hg0:=H0.o.lt;obtain⟨j0,hj0,hy0,hy1,hy2⟩:=info_parts gN;have BE:=O (expr_bd wild d);have HL:=O (abK.empty (w0:=w) H0.o rfl (aaJ _));have Z:=O (H0.o.alloc (.cells #[] 3));have M1:=O (M0.o.dD (o:=.cells #[] 3));have HEC:=O hE;have hdl:=d_le_Lb d;have zd:IntKind.i64.wrap ((d:Int)+1 - 1)=(d:Int):=by rw [Int.add_sub_cancel];exact IntWalk.i64_in _ ⟨by omega,by omega⟩
 clear hE H0 M0;go_in
 go_wp2_with fail;go_loopw [8,9,10] (fun sv l0 i wr=>∃ (k:Nat) (r:aa') (A:Option Addr) (c:Nat) (xs1:List NV) (gW y:Value),k≤m∧i=.int .i64 k∧sv=.string (aM (aN r.pc))∧l0=.slice A r.ix.length c∧Hid (r.ix.length=k)∧(aN r.pc).length≤k * 100009∧r.st.ns.length≤N+k * 10000∧Hid (acU wild (acN wild d) (m - k) r=acU wild (acN wild d) m ⟨[],[],s⟩)∧Hid (LIv r)∧Hid (abK w wr xs1 (.slice A r.ix.length c) r.ix)∧Hid (abH g wild iv wr r.st xs1 gW y)∧Hid (abJ g w xs nv wr xs1 gW)) (fun _ _ i _=>m - (intOf i).toNat)
 case atStart=>exact⟨0,⟨[],[],s⟩,_,_,xs,nv,lv,aaL _,rfl,rfl,rfl,O rfl,by simp [aN],by simpa using hn,O rfl,O (li0 s),HL,Z,M1⟩
 case round =>
  clear HL Z M1;obtain⟨wo,rfl⟩:∃ wo:World,wo=wr:=⟨_,rfl⟩;obtain⟨k,r,A,c,xs1,gW,y,hk,rfl,rfl,rfl,t,hlen,hnl,HR,HI,L,H,M⟩:=hrel;by_cases E:k < m
  ·obtain⟨W,hmm⟩:∃ W,m - k=W+1:=⟨m - k - 1,by omega⟩;have F:m - (k+1)=W:=by omega
   rw [hmm] at HR
   have U1:=O F;clear hmm F;have HX:=O (show aN r.pc=aN r.pc from rfl);obtain⟨X,hX⟩:∃ X,X=aN r.pc:=⟨_,rfl⟩;rw [← hX] at hlen ⊢
   replace HX:=O hX
   clear hX;by_cases S:k=0
   ·subst S;have x:r.ix=[]:=List.eq_nil_of_length_eq_zero t.o;have n:=O (show acU wild (acN wild d) (W+1) r=acU wild (acN wild d) W ⟨r.pc ++ (acN wild d r.st).pc,r.ix ++ [(acN wild d r.st).ix],(acN wild d r.st).st⟩ by rw [acU,if_pos x]);have l:=O (show LIv ⟨r.pc ++ (acN wild d r.st).pc,r.ix ++ [(acN wild d r.st).ix],(acN wild d r.st).st⟩ from ⟨fun h=>by simp at h,fun _=>by show abe (r.pc ++ _);rw [HI.o.1 x];exact expr_good wild d _⟩);clear x;go_wp2_with fail;refine (HEC.o g iv _ r.st xs1 gW y H.o (by omega)).mono ?_;rintro e w2⟨rfl,xs2,Qu,lv2,h2,V⟩;have I:=O h2;have M2:=O (M.o.trans V);have L2:=O (L.o.mw H.o V);clear h2 V;have P:=BE.o.text r.st;have C:=BE.o.nodes r.st;obtain⟨a,R⟩:∃ a,a=acN wild d r.st:=⟨_,rfl⟩;rw [← R] at n I P C ⊢
    obtain⟨T,D⟩:∃ T,T=aN a.pc:=⟨_,rfl⟩;have hTl:T.length≤100000:=by rw [D];exact Nat.le_trans P hL
    rw [← D];have HT:=O D;rw [← R] at l
    clear D R P;have q:=O (L2.o.alloc (.cells #[.int .i64 a.ix] 3));have J:=O (I.o.alloc (.cells #[.int .i64 a.ix] 3));have K:=O (M2.o.dD (o:=(.cells #[.int .i64 a.ix] 3)));have v:=K.o.size;have hxl:¬ 9223372036854775807 < X.length+T.length:=by omega
    have hrl:r.ix.length≤4:=by have:=t.o;omega
    go_wp2_with (at_builtin;go_loud (refine wpList_append_lies _ rfl (.tmp 36) (.tmp 38) 24 rfl 0 3 j0 (.int .i64 0) 1 8 Tryz.underlying24 hj0 hy0 hy1 hy2 rfl (by decide) _ r.ix.length (intCells r.ix) rfl q.o.row ⟨w2.heap.size,0,none⟩ 1 1 [.int .i64 a.ix] rfl rfl (cell_one_new _ _ _) (by simp [Value.oneCell']) (by omega) (by simp only [maxLen];omega) (by omega) (aaL _) _ rfl ?_);intro gg14 Q Tx j f u E;have L3:=O (q.o.grow J.o j u v);have H3:=O (J.o.grow q.o f (fun b hb=>aaK (aaW hg0 (q.o.lo b hb))));have M3:=O (K.o.grow q.o f);clear j f u E)
    clear q J K v L2 I M2;exact⟨⟨0+1,_,_,_,_,_,_,by omega,by go_num,congrArg Value.string (congrArg aM (show X ++ T=aN (r.pc ++ a.pc) by rw [qZ,HX.o,HT.o])),by rw [aaO];rfl,O (by rw [aaO,t.o];rfl),by rw [qZ,← HX.o,← HT.o,aaO];omega,by show a.st.ns.length≤_;omega,O (by show acU wild (acN wild d) (m - (0+1)) _=_;rw [U1.o,← n.o,HR.o]),l,by rw [aaO];exact L3,H3,M3⟩,by simp [intOf];omega⟩
   ·have U:r.ix ≠ []:=fun h=>S (by rw [← t.o,h];rfl)
    have n:=O (show acU wild (acN wild d) (W+1) r=acU wild (acN wild d) W ⟨r.pc ++ (sgn [44] :: Pcs.on (acP wild r.st) (acN wild d (acJ wild r.st)).pc),r.ix ++ [(acN wild d (acJ wild r.st)).ix],(acN wild d (acJ wild r.st)).st⟩ by rw [acU,if_neg U])
    have l:=O (show LIv ⟨r.pc ++ (sgn [44] :: Pcs.on (acP wild r.st) (acN wild d (acJ wild r.st)).pc),r.ix ++ [(acN wild d (acJ wild r.st)).ix],(acN wild d (acJ wild r.st)).st⟩ from by
     have:=list_good wild (expr_good wild d) 1 r HI.o
     rw [acU,if_neg U,acU] at this
     exact this)
    have B:=O ((expr_good wild d (acJ wild r.st)).start.text (acP wild r.st));have abQ:(0:Int) < (k:Int):=by omega
    clear U S;go_wp2_with fail;refine (plGap_any g wild iv _ r.st xs1 gW y H.o).mono ?_;rintro e w1⟨rfl,lvg,h1,m1⟩;have Z:=O h1;have M1:=O (M.o.mvp m1);have L1:=O (L.o.mv H.o m1);clear h1 m1;have Fb:=gapG_len wild r.st;obtain⟨G,hG⟩:∃ G,G=acP wild r.st:=⟨_,rfl⟩;rw [← hG] at Fb n l B ⊢
    have hx1:¬ 9223372036854775807 < 1+G.length:=by omega
    have hx2:¬ 9223372036854775807 < X.length+(1+G.length):=by omega
    clear hG H M L;go_wp2_with fail;obtain⟨Y,hY⟩:∃ Y,Y=X ++ ([44] ++ G):=⟨_,rfl⟩;have hYl:Y.length=X.length+(1+G.length):=by rw [hY,aaO,aaO];rfl
    rw [show (aM X ++ ((⟨#[44]⟩:ByteArray) ++ aM G))=aM Y from by rw [hY,← ak,← ak];rfl];have HY:=O hY;clear hY hx1 hx2;refine (HEC.o g iv _ (acJ wild r.st) xs1 gW lvg Z.o (by rw [acI];omega)).mono ?_;rintro e w2⟨rfl,xs2,Qu,lv2,h2,V⟩;have I:=O h2;have M2:=O (M1.o.trans V);have L2:=O (L1.o.mw Z.o V);clear h2 V;have P:=BE.o.text (acJ wild r.st);have C:=BE.o.nodes (acJ wild r.st);obtain⟨a,R⟩:∃ a,a=acN wild d (acJ wild r.st):=⟨_,rfl⟩;rw [← R] at n I P C ⊢
    obtain⟨T,D⟩:∃ T,T=aN a.pc:=⟨_,rfl⟩;rw [acI] at C
    have hTl:T.length≤100000:=by rw [D];exact Nat.le_trans P hL
    rw [← D];have HT:=O D;rw [← R] at l B
    clear D R P;have q:=O (L2.o.alloc (.cells #[.int .i64 a.ix] 3));have J:=O (I.o.alloc (.cells #[.int .i64 a.ix] 3));have K:=O (M2.o.dD (o:=(.cells #[.int .i64 a.ix] 3)));have v:=K.o.size;have hxl:¬ 9223372036854775807 < Y.length+T.length:=by omega
    have hrl:r.ix.length≤4:=by have:=t.o;omega
    go_wp2_with (at_builtin;go_loud (refine wpList_append_lies _ rfl (.tmp 36) (.tmp 38) 24 rfl 0 3 j0 (.int .i64 0) 1 8 Tryz.underlying24 hj0 hy0 hy1 hy2 rfl (by decide) _ r.ix.length (intCells r.ix) rfl q.o.row ⟨w2.heap.size,0,none⟩ 1 1 [.int .i64 a.ix] rfl rfl (cell_one_new _ _ _) (by simp [Value.oneCell']) (by omega) (by simp only [maxLen];omega) (by omega) (aaL _) _ rfl ?_);intro gg14 Q Tx j f u E;have L3:=O (q.o.grow J.o j u v);have H3:=O (J.o.grow q.o f (fun b hb=>aaK (aaW hg0 (q.o.lo b hb))));have M3:=O (K.o.grow q.o f);clear j f u E)
    clear q J K v L2 I M2
    exact⟨⟨k+1,_,_,_,_,_,_,by omega,by go_num,congrArg Value.string (congrArg aM (show Y ++ T=aN (r.pc ++ (sgn [44] :: Pcs.on G a.pc)) by
     rw [qZ,HY.o,HX.o,HT.o]
     show _=aN r.pc ++ ([] ++ ([44] ++ aN (Pcs.on G a.pc)))
     rw [B.o];simp only [List.nil_append,List.append_assoc])),by rw [aaO];rfl,O (by rw [aaO,t.o];rfl),by
      rw [show aN (r.pc ++ (sgn [44] :: Pcs.on G a.pc))=Y ++ T from by
       rw [qZ,HY.o,HX.o,HT.o]
       show aN r.pc ++ ([] ++ ([44] ++ aN (Pcs.on G a.pc)))=_
       rw [B.o];simp only [List.nil_append,List.append_assoc],aaO]
      omega,by show a.st.ns.length≤_;omega,O (by rw [U1.o,← n.o,HR.o]),l,by rw [aaO];exact L3,H3,M3⟩,by simp [intOf];omega⟩
  ·obtain rfl:k=m:=by omega
   have HRR:=O (show acU wild (acN wild d) k ⟨[],[],s⟩=r by rw [← HR.o,Nat.sub_self];rfl);clear HR;go_wp2_with fail;go_ret2
   rw [HRR.o];exact⟨A,c,xs1,gW,y,rfl,L.o,H.o,M.o⟩
end Go.Proofs.YthepmkjggfijoaaGreatDoor
namespace Mist
theorem one_le (g t:Bs)(k n:Nat)(a:g.length+t.length≤n):tl [(g,k,t)]≤n:=by
 rw [tl_cons,tl_nil];omega
theorem on_le (wild:Bool)(z:abd)(I:Pcs):tl (Pcs.on (acP wild z) I)≤8+tl I:=Nat.le_trans (tl_on _ I) (Nat.add_le_add_right (gap_le wild z) _)
theorem put_len (s:abd)(n:Nd):(s.put n).ns.length=s.ns.length+1:=aaO
theorem kind_bd (wild:Bool):∀ (d:Nat) (s:abd),tl (acQ wild d s).pc≤14 * d+4∧(acQ wild d s).st.ns.length≤s.ns.length+(d+1):=by
 have a:∀ (s:abd) (t:Bs) (k:Nat) (n:Nd),t.length≤4→tl (acV [([],k,t)] s.tl n).pc≤4∧(acV [([],k,t)] s.tl n).st.ns.length=s.ns.length+1:=fun s t k n b =>
  ⟨one_le [] t k 4 (by simpa using b),put_len _ _⟩
 intro d
 induction d with
 | zero =>
  intro s;rw [acQ];split
  ·obtain⟨h1,h2⟩:=a s [105,110,116] 3 ⟨30,[],0,[],0⟩ (by decide);exact⟨by omega,by omega⟩
  split
  ·obtain⟨h1,h2⟩:=a s [98,111,111,108] 3 ⟨31,[],0,[],0⟩ (by decide);exact⟨by omega,by omega⟩
  ·obtain⟨h1,h2⟩:=a s (acM s.nx) 1 ⟨32,acM s.nx,0,[],0⟩ (wordG_le _);exact⟨by omega,by omega⟩
 | succ d c =>
  intro s;rw [acQ];split
  ·obtain⟨h1,h2⟩:=a s [105,110,116] 3 ⟨30,[],0,[],0⟩ (by decide);exact⟨by omega,by omega⟩
  split
  ·obtain⟨h1,h2⟩:=a s [98,111,111,108] 3 ⟨31,[],0,[],0⟩ (by decide);exact⟨by omega,by omega⟩
  split
  ·obtain⟨h1,h2⟩:=a s (acM s.nx) 1 ⟨32,acM s.nx,0,[],0⟩ (wordG_le _);exact⟨by omega,by omega⟩
  ·simp only
   obtain⟨h1,h2⟩:=c s.tl;have h2:(acQ wild d s.tl).st.ns.length≤s.ns.length+(d+1):=h2;have e:=gap_le wild (acQ wild d s.tl).st.tl;have f:(acQ wild d s.tl).st.nx % 6 < 6:=Nat.mod_lt _ (by decide);have hi:=itoa_le ⟨1+(acQ wild d s.tl).st.nx % 6,by omega⟩
   refine⟨?_,?_⟩
   ·show tl (sgn [91] :: ((acQ wild d s.tl).pc ++ [(_,4,[59]),([],2,_),sgn [93]]))≤_
    simp only [tl_sgn,tl_append,tl_cons,tl_nil,List.length_cons,List.length_nil];simp only at hi
    omega
   ·show (abd.put _ _).ns.length≤_
    rw [put_len,acI]
    show (acQ wild d s.tl).st.ns.length+1≤_
    omega
theorem params_bd (wild:Bool):∀ (m:Nat) (r:aa'),tl (acO wild m r).pc≤tl r.pc+m * 60∧(acO wild m r).st.ns.length≤r.st.ns.length+m * 4∧(acO wild m r).ix.length=r.ix.length+m
 | 0,r=>⟨by rw [acO];omega,by rw [acO];omega,rfl⟩
 | m+1,r=>by
  rw [acO];obtain⟨a,b⟩:∃ a,a=if r.ix=[] then r.st else acJ wild r.st:=⟨_,rfl⟩
  have c:a.ns=r.st.ns:=by rw [b];split;rfl;exact acI wild r.st
  obtain⟨g,d⟩:∃ g:Bs,g=if r.ix=[] then [] else acP wild r.st:=⟨_,rfl⟩
  have f:g.length≤8:=by rw [d];split;(exact aaL _);exact gap_le wild r.st
  simp only [← b,← d];obtain⟨h1,h2⟩:=kind_bd wild 2 a.tl;have h2:(acQ wild 2 a.tl).st.ns.length≤r.st.ns.length+3:=by rw [← c];exact h2
  have h3:=on_le wild (acQ wild 2 a.tl).st (acQ wild 2 a.tl).pc;have h4:=wordG_le a.nx
  have h:tl (if r.ix=[] then ((g,1,acM a.nx) :: sgn [58] :: Pcs.on (acP wild (acQ wild 2 a.tl).st) (acQ wild 2 a.tl).pc:Pcs) else sgn [44] :: (g,1,acM a.nx) :: sgn [58] :: Pcs.on (acP wild (acQ wild 2 a.tl).st) (acQ wild 2 a.tl).pc)≤60:=by
   split
   ·rw [tl_cons,tl_sgn];simp only [aaT];omega
   ·rw [tl_sgn,tl_cons,tl_sgn];simp only [aaT];omega
  have e:=params_bd wild m ⟨r.pc ++ (if r.ix=[] then ((g,1,acM a.nx) :: sgn [58] :: Pcs.on (acP wild (acQ wild 2 a.tl).st) (acQ wild 2 a.tl).pc:Pcs) else sgn [44] :: (g,1,acM a.nx) :: sgn [58] :: Pcs.on (acP wild (acQ wild 2 a.tl).st) (acQ wild 2 a.tl).pc),r.ix ++ [(acJ wild (acQ wild 2 a.tl).st).id],(acJ wild (acQ wild 2 a.tl).st).put ⟨34,acM a.nx,0,[(acQ wild 2 a.tl).ix],0⟩⟩;simp only [tl_append,aaO,aaT,put_len,acI] at e
  obtain⟨i,j,k⟩:=e;exact⟨by omega,by omega,by omega⟩
theorem lb4:abN 4=10548:=rfl
theorem cb4:abM 4=681:=rfl
theorem lb3:abN 3=2612:=rfl
theorem cb3:abM 3=169:=rfl
theorem query_le (q:Nat)(h:q≤8):(sg queriesG q).length≤6:=by
 have:∀ g ∈ queriesG,g.length≤6:=by decide
 exact this _ (sg_mem queriesG _ (by show q < 9;omega))
theorem ask_bd (wild:Bool)(q:Nat)(h:q≤8)(s:abd):tl (askG wild q s).pc≤11000∧(askG wild q s).st.ns.length≤s.ns.length+800:=by
 unfold askG;simp only
 obtain⟨m,d⟩:∃ m,m=if q=7 then 0 else if q=8 then 1+s.nx % 4 else 1:=⟨_,rfl⟩
 have a:m≤4:=by rw [d];split;omega;split <;> omega
 obtain⟨s1,b⟩:∃ s1,s1=if q=8 then s.tl else s:=⟨_,rfl⟩
 have e:s1.ns=s.ns:=by rw [b];split <;> rfl
 rw [← d,← b];obtain⟨l1,c,_⟩:=list_bd wild (expr_bd wild 3) m ⟨[],[],s1⟩;rw [tl_nil,lb3] at l1
 rw [cb3] at c
 have c:(acU wild (acN wild 3) m ⟨[],[],s1⟩).st.ns.length≤s.ns.length+m * 169:=by rw [← e];exact c
 have k:m * (2612+9)≤4 * (2612+9):=Nat.mul_le_mul_right _ a;have l:m * 169≤4 * 169:=Nat.mul_le_mul_right _ a;have j:=gap_le wild (acU wild (acN wild 3) m ⟨[],[],s1⟩).st;have i:=query_le q h;have f:=tl_on [32] (acU wild (acN wild 3) m ⟨[],[],s1⟩).pc
 refine⟨?_,?_⟩
 ·show tl (_ :: _ :: Pcs.on [32] _)≤_
  rw [tl_cons,tl_cons];simp only [List.length_cons,List.length_nil] at f ⊢
  omega
 ·show (abd.put _ _).ns.length≤_
  rw [put_len,acI];omega
theorem num_bd (n:Int)(h1:-140 < n)(h2:n < 140)(s:abd):tl (numberG n s).pc≤4∧(numberG n s).st.ns.length=s.ns.length+1:=⟨numPc_le n h1 h2,put_len _ _⟩
theorem upto_le (s:abd):uptoN s≤8:=by unfold uptoN;split <;> omega
theorem item_bd (wild:Bool)(s:abd):tl (itemG0 wild s).pc≤11990∧(itemG0 wild s).st.ns.length≤s.ns.length+900:=by
 unfold itemG0;simp only
 generalize y:s.tl.tl=a
 have j:a.ns=s.ns:=by rw [← y];rfl
 rw [← j];have H:=wordG_le s.tl.nx
 generalize acM s.tl.nx=x at *
 have c:=gap_le wild;split
 ·unfold chooseG;simp only
  obtain⟨low,e⟩:∃ low:Int,low=((a.nx % 30:Nat):Int) - 15:=⟨_,rfl⟩;rw [← e];obtain⟨k,v⟩:∃ k,k=(numberG low a.tl).st.nx % 12:=⟨_,rfl⟩;rw [← v];have h1:=num_bd low (by omega) (by omega) a.tl;have h2:=num_bd (low+(k:Int)) (by omega) (by omega) (numberG low a.tl).st.tl;have q:(numberG low a.tl).st.ns.length=a.ns.length+1:=h1.2;have u:(numberG (low+(k:Int)) (numberG low a.tl).st.tl).st.ns.length=(numberG low a.tl).st.ns.length+1:=h2.2;have E:=on_le wild (numberG (low+(k:Int)) (numberG low a.tl).st.tl).st (numberG low a.tl).pc;have I:=on_le wild (acJ wild (acJ wild (numberG (low+(k:Int)) (numberG low a.tl).st.tl).st)) (numberG (low+(k:Int)) (numberG low a.tl).st.tl).pc;have h:=c (acJ wild (numberG (low+(k:Int)) (numberG low a.tl).st.tl).st);unfold acV
  refine⟨?_,?_⟩
  ·simp only [tl_cons,tl_sgn,tl_append,List.length_cons,List.length_nil];omega
  ·show (abd.put _ _).ns.length≤_
   rw [put_len,acI,acI,acI];omega
 split
 ·unfold typeG acV;simp only
  obtain⟨l1,d,_⟩:=params_bd wild (1+a.nx % 6) ⟨[],[],a.tl⟩;rw [tl_nil] at l1
  have d:(acO wild (1+a.nx % 6) ⟨[],[],a.tl⟩).st.ns.length≤a.ns.length+(1+a.nx % 6) * 4:=d
  refine⟨?_,?_⟩
  ·simp only [tl_cons,tl_sgn,tl_append,tl_nil,List.length_cons,List.length_nil];omega
  ·show (abd.put _ _).ns.length≤_
   rw [put_len];omega
 split
 ·unfold funG acV;simp only
  obtain⟨l1,d,_⟩:=params_bd wild (a.nx % 5) ⟨[],[],a.tl⟩;rw [tl_nil] at l1
  have d:(acO wild (a.nx % 5) ⟨[],[],a.tl⟩).st.ns.length≤a.ns.length+(a.nx % 5) * 4:=d;have i:a.nx % 5 < 5:=Nat.mod_lt _ (by decide)
  generalize a.nx % 5=m at l1 d i ⊢
  generalize acO wild m ⟨[],[],a.tl⟩=r at l1 d ⊢
  obtain⟨C,D⟩:=kind_bd wild 2 r.st
  generalize acQ wild 2 r.st=t at C D ⊢
  have A:=upto_le t.st
  generalize uptoN t.st=n at A ⊢
  obtain⟨s1,f⟩:∃ s1,s1=if 0 < n then acJ wild t.st.tl else t.st.tl:=⟨_,rfl⟩
  have l:s1.ns=t.st.ns:=by rw [f];split;(rw [acI];rfl);rfl
  have B:tl (if 0 < n then ([([32],3,[117,112,116,111]),(acP wild t.st.tl,2,Go.Lib.itoa (n:Int))]:Pcs) else [])≤20:=by
   split
   ·have hi:=itoa_le ⟨n,by omega⟩;have h:=c t.st.tl;simp only at hi
    rw [tl_cons,tl_cons,tl_nil];simp only [List.length_cons,List.length_nil];omega
   ·rw [tl_nil];omega
  rw [← f];have b1:=(expr_bd wild 4).text s1;have b2:=(expr_bd wild 4).nodes s1;rw [lb4] at b1
  rw [cb4,l] at b2
  generalize acN wild 4 s1=b at b1 b2 ⊢
  have h:=c b.st;have F:=c (acJ wild b.st);have G:=c (acJ wild (acJ wild b.st))
  refine⟨?_,?_⟩
  ·simp only [tl_cons,tl_sgn,tl_append,tl_nil,List.length_cons,List.length_nil];omega
  ·show (abd.put _ _).ns.length≤_
   rw [put_len,acI,acI,acI];omega
 split
 ·unfold letItemG acV;simp only
  have b1:=(expr_bd wild 4).text a;have b2:=(expr_bd wild 4).nodes a;rw [lb4] at b1
  rw [cb4] at b2
  have E:=on_le wild (acN wild 4 a).st (acN wild 4 a).pc
  refine⟨?_,?_⟩
  ·simp only [tl_cons,tl_sgn,List.length_cons,List.length_nil];omega
  ·show (abd.put _ _).ns.length≤_
   rw [put_len,acI];omega
 split
 ·unfold observeG acV;simp only
  have b1:=(expr_bd wild 4).text a;have b2:=(expr_bd wild 4).nodes a;rw [lb4] at b1
  rw [cb4] at b2
  have h:=c (acN wild 4 a).st
  refine⟨?_,?_⟩
  ·simp only [tl_cons,List.length_cons,List.length_nil];omega
  ·show (abd.put _ _).ns.length≤_
   rw [put_len,acI];omega
 split
 ·unfold retractG acV;have h:=c a
  refine⟨?_,?_⟩
  ·simp only [tl_cons,tl_nil,List.length_cons,List.length_nil];omega
  ·show (abd.put _ _).ns.length≤_
   rw [put_len,acI];omega
 ·obtain⟨h1,h2⟩:=ask_bd wild (1+a.nx % 8) (by omega) a.tl;have h2:(askG wild (1+a.nx % 8) a.tl).st.ns.length≤a.ns.length+800:=h2;exact⟨by omega,by omega⟩
theorem itemG_bd (wild:Bool)(s:abd):tl (itemG wild s).pc≤12000∧(itemG wild s).st.ns.length≤s.ns.length+900:=by
 obtain⟨h1,h2⟩:=item_bd wild s;unfold itemG;simp only
 refine⟨?_,by rw [acI];exact h2⟩
 have b:(trailG s).length≤1:=by unfold trailG;split <;> simp
 have a:=gap_le wild (itemG0 wild s).st;rw [tl_append,tl_cons,tl_nil,aaO];simp only [List.length_cons,List.length_nil];omega
end Mist
namespace Go.Proofs.YthepmkjggfijoaaGreatDoor
open Go.RowKit Mist
attribute [local go_sem] aj aH aS aB ak
def ab3 (wild:Bool)(d N:Nat):Prop:=∀ (g:Nat) (iv:Value) (w:World) (s:abd) (xs:List NV) (nv lv:Value),abH g wild iv w s xs nv lv→s.ns.length≤N →
 Calls Tryz.prog 116 #[.pointer (some ⟨g,0,none⟩),.int .i64 (d:Int)] w (GPost g wild iv w xs nv (acQ wild d s))
theorem kd_int (wild:Bool)(d:Int)(g:Nat)(iv:Value)(w:World)(s:abd)(t:s.nx % 4=0)  (xs:List NV)(nv lv:Value)(h:abH g wild iv w s xs nv lv)(r:s.ns.length≤900000) :
  Calls Tryz.prog 116 #[.pointer (some ⟨g,0,none⟩),.int .i64 d] w (GPost g wild iv w xs nv (acV [([],3,[105,110,116])] s.tl ⟨30,[],0,[],0⟩)):=by
 have a:=O h;have b:=O (abJ.refl (g:=g) (w:=w) (xs:=xs) (nv:=nv));clear h;have l:s.tl.ns.length=s.ns.length:=rfl;have k:Int.tmod (s.nx:Int) 4=0:=by rw [Int.tmod_eq_emod_of_nonneg (by omega)];omega
 go_in
 go_wp2_with fail;refine (plNext_any g wild _ _ (s) _ _ _ a.o).mono ?_;rintro e w1⟨rfl,n,h,m⟩;have c:=O h;have i:=O (b.o.mvp m);clear h m a b;go_wp2_with fail;refine (plPut_any g wild _ _ ((s).tl) _ _ _ c.o 30 [] 0 _ [] (cB.none_ _) (by first | omega|(simp only [acI,someS_ns];omega))).mono ?_;rintro e w2⟨rfl,q,h,m⟩;have f:=O h;have j:=O (i.o.putp (x:=(⟨30,[],0,[],0⟩,(.slice none 0 0))) m gw_none);clear h m;go_wp2_with fail;go_ret2
 refine⟨?_,_,_,_,f.o,j.o⟩
 show _=Ending.returned (.tuple #[.string (aM (aN [([],3,[105,110,116])])),.int .i64 ((s).tl).id])
 rw [itemText_one];rfl
theorem kd_bool (wild:Bool)(d:Int)(g:Nat)(iv:Value)(w:World)(s:abd)(t:s.nx % 4=1)  (xs:List NV)(nv lv:Value)(h:abH g wild iv w s xs nv lv)(r:s.ns.length≤900000) :
  Calls Tryz.prog 116 #[.pointer (some ⟨g,0,none⟩),.int .i64 d] w (GPost g wild iv w xs nv (acV [([],3,[98,111,111,108])] s.tl ⟨31,[],0,[],0⟩)):=by
 have a:=O h;have b:=O (abJ.refl (g:=g) (w:=w) (xs:=xs) (nv:=nv));clear h;have l:s.tl.ns.length=s.ns.length:=rfl;have k:Int.tmod (s.nx:Int) 4=1:=by rw [Int.tmod_eq_emod_of_nonneg (by omega)];omega
 go_in
 go_wp2_with fail;refine (plNext_any g wild _ _ (s) _ _ _ a.o).mono ?_;rintro e w1⟨rfl,n,h,m⟩;have c:=O h;have i:=O (b.o.mvp m);clear h m a b;go_wp2_with fail;refine (plPut_any g wild _ _ ((s).tl) _ _ _ c.o 31 [] 0 _ [] (cB.none_ _) (by first | omega|(simp only [acI,someS_ns];omega))).mono ?_;rintro e w2⟨rfl,q,h,m⟩;have f:=O h;have j:=O (i.o.putp (x:=(⟨31,[],0,[],0⟩,(.slice none 0 0))) m gw_none);clear h m;go_wp2_with fail;go_ret2
 refine⟨?_,_,_,_,f.o,j.o⟩
 show _=Ending.returned (.tuple #[.string (aM (aN [([],3,[98,111,111,108])])),.int .i64 ((s).tl).id])
 rw [itemText_one];rfl
theorem kd_name (wild:Bool)(d:Int)(g:Nat)(iv:Value)(w:World)(s:abd)(r:s.nx % 4=2)  (xs:List NV)(nv lv:Value)(h:abH g wild iv w s xs nv lv)(q:s.ns.length≤900000) :
  Calls Tryz.prog 116 #[.pointer (some ⟨g,0,none⟩),.int .i64 d] w (GPost g wild iv w xs nv (acV [([],1,acM s.nx)] s.tl ⟨32,(acM s.nx),0,[],0⟩)):=by
 have a:=O h;have b:=O (abJ.refl (g:=g) (w:=w) (xs:=xs) (nv:=nv));clear h;have l:s.tl.ns.length=s.ns.length:=rfl;have k:Int.tmod (s.nx:Int) 4=2:=by rw [Int.tmod_eq_emod_of_nonneg (by omega)];omega
 go_in
 go_wp2_with fail;refine (plNext_any g wild _ _ (s) _ _ _ a.o).mono ?_;rintro e w1⟨rfl,n,h,m⟩;have c:=O h;have i:=O (b.o.mvp m);clear h m a b;go_wp2_with fail;refine (plWord_any (s.nx) _).mono ?_;rintro e w2⟨rfl,rfl⟩;go_wp2_with fail;refine (plWord_any (s.nx) _).mono ?_;rintro e t⟨rfl,rfl⟩;go_wp2_with fail;refine (plPut_any g wild _ _ ((s).tl) _ _ _ c.o 32 (acM s.nx) 0 _ [] (cB.none_ _) (by first | omega|(simp only [acI,someS_ns];omega))).mono ?_;rintro e u⟨rfl,v,h,m⟩;have f:=O h;have j:=O (i.o.putp (x:=(⟨32,(acM s.nx),0,[],0⟩,(.slice none 0 0))) m gw_none);clear h m;go_wp2_with fail;go_ret2
 refine⟨?_,_,_,_,f.o,j.o⟩
 show _=Ending.returned (.tuple #[.string (aM (aN [([],1,acM s.nx)])),.int .i64 ((s).tl).id])
 rw [itemText_one];rfl
theorem kd_name0 (wild:Bool)(d:Int)(g:Nat)(iv:Value)(w:World)(s:abd)(r:s.nx % 4=3)(hd:d=0)  (xs:List NV)(nv lv:Value)(h:abH g wild iv w s xs nv lv)(q:s.ns.length≤900000) :
  Calls Tryz.prog 116 #[.pointer (some ⟨g,0,none⟩),.int .i64 d] w (GPost g wild iv w xs nv (acV [([],1,acM s.nx)] s.tl ⟨32,(acM s.nx),0,[],0⟩)):=by
 have a:=O h;have b:=O (abJ.refl (g:=g) (w:=w) (xs:=xs) (nv:=nv));clear h;have l:s.tl.ns.length=s.ns.length:=rfl;have k:Int.tmod (s.nx:Int) 4=3:=by rw [Int.tmod_eq_emod_of_nonneg (by omega)];omega
 subst hd;go_in
 go_wp2_with fail;refine (plNext_any g wild _ _ (s) _ _ _ a.o).mono ?_;rintro e w1⟨rfl,n,h,m⟩;have c:=O h;have i:=O (b.o.mvp m);clear h m a b;go_wp2_with fail;refine (plWord_any (s.nx) _).mono ?_;rintro e w2⟨rfl,rfl⟩;go_wp2_with fail;refine (plWord_any (s.nx) _).mono ?_;rintro e t⟨rfl,rfl⟩;go_wp2_with fail;refine (plPut_any g wild _ _ ((s).tl) _ _ _ c.o 32 (acM s.nx) 0 _ [] (cB.none_ _) (by first | omega|(simp only [acI,someS_ns];omega))).mono ?_;rintro e u⟨rfl,v,h,m⟩;have f:=O h;have j:=O (i.o.putp (x:=(⟨32,(acM s.nx),0,[],0⟩,(.slice none 0 0))) m gw_none);clear h m;go_wp2_with fail;go_ret2
 refine⟨?_,_,_,_,f.o,j.o⟩
 show _=Ending.returned (.tuple #[.string (aM (aN [([],1,acM s.nx)])),.int .i64 ((s).tl).id])
 rw [itemText_one];rfl
theorem kd_list (wild:Bool)(d N:Nat)(hN:N≤900000)(hd2:d≤2)(hK:ab3 wild d (N+10))(g:Nat)(iv:Value)(w:World)(s:abd)(xs:List NV)(nv lv:Value)(h:abH g wild iv w s xs nv lv)(hn:s.ns.length≤N)(hr:s.nx % 4=3) :
  Calls Tryz.prog 116 #[.pointer (some ⟨g,0,none⟩),.int .i64 ((d:Int)+1)] w (GPost g wild iv w xs nv (acQ wild (d+1) s)):=by
 have M:=O h;have S:=O (abJ.refl (g:=g) (w:=w) (xs:=xs) (nv:=nv));clear h;have hsn:s.tl.ns.length=s.ns.length:=rfl;have hm4:Int.tmod (s.nx:Int) 4=3:=by rw [Int.tmod_eq_emod_of_nonneg (by omega)];omega
 have zd0:¬ ((d:Int)+1≤0):=by omega
 have zd:IntKind.i64.wrap ((d:Int)+1 - 1)=(d:Int):=by rw [Int.add_sub_cancel];exact IntWalk.i64_in _ ⟨by omega,by omega⟩
 have C:=O hK;have B:=O (show ∀ z,tl (acQ wild d z).pc≤100∧(acQ wild d z).st.ns.length≤z.ns.length+(d+1) from fun z=>⟨Nat.le_trans (kind_bd wild d z).1 (by omega),(kind_bd wild d z).2⟩);clear hK;go_in
 go_wp2_with fail;refine (plNext_any g wild _ _ (s) _ _ _ M.o).mono ?_;rintro e w1⟨rfl,lv1,h,m⟩;have P:=O h;have V:=O (S.o.mvp m);clear h m M S;go_wp2_with fail;refine (C.o g _ _ (s.tl) _ _ _ P.o (by first | omega|(simp only [acI];omega))).mono ?_;rintro e w2⟨rfl,xs2,Qu,lv2,h,m⟩;have v:=O h;have W:=O (V.o.trans m);clear h m P V;obtain⟨j,r⟩:=B.o (s.tl);obtain⟨b,l⟩:∃ a,a=acQ wild d (s.tl):=⟨_,rfl⟩;rw [← l] at v j r ⊢
 obtain⟨i,f⟩:∃ T,T=aN b.pc:=⟨_,rfl⟩;have tl2:i.length≤100:=by rw [f];exact j
 rw [← f];have A:=O l;have D:=O f;clear l f j
 (try simp only [acI] at r)
 obtain⟨q,L⟩:∃ q,q=b.st.nx % 6:=⟨_,rfl⟩;have zq:Int.tmod (b.st.nx:Int) 6=(q:Int):=by rw [Int.tmod_eq_emod_of_nonneg (by omega),L];omega
 have HQ:=O L;have hq6:q≤5:=by omega
 clear L;have zq1:IntKind.i64.wrap (1+(q:Int))=((1+q:Nat):Int):=by rw [IntWalk.i64_in _ (by omega)];omega
 have t:=itoa_le ⟨1+q,by omega⟩;simp only at t
 go_wp2_with fail;refine (plNext_any g wild _ _ (b.st) _ _ _ v.o).mono ?_;rintro e w3⟨rfl,lv3,h,m⟩;have Q:=O h;have X:=O (W.o.mvp m);clear h m v W;have hsn2:b.st.tl.ns.length=b.st.ns.length:=rfl;go_wp2_with fail;refine (plGap_any g wild _ _ (b.st.tl) _ _ _ Q.o).mono ?_;rintro e w4⟨rfl,lv4,h,m⟩;have y:=O h;have Z:=O (X.o.mvp m);clear h m Q X;have I:=gapG_len wild (b.st.tl);obtain⟨c,k⟩:∃ G,G=acP wild (b.st.tl):=⟨_,rfl⟩;rw [← k] at I ⊢
 have Jf:=O k;clear k;go_wp2_with fail;refine (plItoa_any (((1+q:Nat):Int)) (by omega) (by omega) g wild _ _ (acJ wild (b.st.tl)) _ _ _ y.o).mono ?_;rintro e w5⟨rfl,n⟩;have R:=O (y.o.below n);have E:=O (Z.o.aL n);clear n y Z;obtain⟨U,J⟩:∃ U,U=Go.Lib.itoa ((1+q:Nat):Int):=⟨_,rfl⟩;rw [← J] at t ⊢
 have HU:=O J;clear J;have cq0:¬ 9223372036854775807 < 1+i.length:=by omega
 have cq1:¬ 9223372036854775807 < 1+i.length+c.length:=by omega
 have cq2:¬ 9223372036854775807 < 1+i.length+c.length+1:=by omega
 have cq3:¬ 9223372036854775807 < 1+i.length+c.length+1+U.length:=by omega
 have cq4:¬ 9223372036854775807 < 1+i.length+c.length+1+U.length+1:=by omega
 have F:=O (Mx w5 [b.ix]);have HK:=O (R.o.alloc (.cells (intCells [b.ix]).toArray 3));have H:=O (E.o.dD (o:=.cells (intCells [b.ix]).toArray 3));have K:=E.o.size;clear R E;go_wp2_with fail;obtain⟨Y,u⟩:∃ Y:Bs,Y=[91] ++ i ++ c ++ [59] ++ U ++ [93]:=⟨_,rfl⟩;rw [show (⟨#[91]⟩:ByteArray) ++ aM (i) ++ aM (c) ++ (⟨#[59]⟩:ByteArray) ++ aM (U) ++ (⟨#[93]⟩:ByteArray)=aM Y from by rw [u] <;> (simp only [← ak];rfl)];have abT:Y.length≤10000000:=by rw [u];simp only [aaO,List.length_cons,List.length_nil];omega
 have HY:=O u;clear u;refine (plPut_any g wild _ _ (acJ wild (b.st.tl)) _ _ _ HK.o 33 [] ((1+q:Nat):Int) _ [b.ix] F.o (by first | omega|(simp only [acI,someS_ns];omega))).mono ?_;rintro e w6⟨rfl,XB,h,m⟩;have H6:=O h;have M6:=O (H.o.putp (x:=(⟨33,[],((1+q:Nat):Int),[b.ix],0⟩,(.slice (some ⟨w5.heap.size,0,none⟩) 1 1))) m (gw_at K));clear h m;go_wp2_with fail;go_ret2
 have HF:=O (show acQ wild (d+1) s=acV (sgn [91] :: (b.pc ++ [(c,4,[59]),([],2,U),sgn [93]])) (acJ wild (b.st.tl)) ⟨33,[],((1+q:Nat):Int),[b.ix],0⟩ from by
  rw [acQ,if_neg (by omega),if_neg (by omega),if_neg (by omega)];simp only
  rw [← A.o,← Jf.o,← HQ.o,← HU.o])
 rw [HF.o]
 refine⟨?_,_,_,_,H6.o,M6.o⟩
 show _=Ending.returned (.tuple #[.string (aM (aN (sgn [91] :: (b.pc ++ [(c,4,[59]),([],2,U),sgn [93]])))),.int .i64 (acJ wild (b.st.tl)).id])
 have HI:=(show aN (sgn [91] :: (b.pc ++ [(c,4,[59]),([],2,U),sgn [93]]))=Y from by
  simp only [aN,qZ,sgn];rw [HY.o,D.o];simp only [List.nil_append,List.append_nil,List.append_assoc,List.cons_append])
 rw [HI];rfl
theorem kind_zero (wild:Bool)(N:Nat)(a:N≤900000):ab3 wild 0 N:=by
 intro g iv w s xs nv lv h b;by_cases h0:s.nx % 4=0
 ·rw [show acQ wild 0 s=acV [([],3,[105,110,116])] s.tl ⟨30,[],0,[],0⟩ by rw [acQ,if_pos h0]];exact kd_int wild _ g iv w s h0 xs nv lv h (by omega)
 by_cases h1:s.nx % 4=1
 ·rw [show acQ wild 0 s=acV [([],3,[98,111,111,108])] s.tl ⟨31,[],0,[],0⟩ by rw [acQ,if_neg h0,if_pos h1]];exact kd_bool wild _ g iv w s h1 xs nv lv h (by omega)
 rw [show acQ wild 0 s=acV [([],1,acM s.nx)] s.tl ⟨32,acM s.nx,0,[],0⟩ by rw [acQ,if_neg h0,if_neg h1]];by_cases h2:s.nx % 4=2
 ·exact kd_name wild _ g iv w s h2 xs nv lv h (by omega)
 ·exact kd_name0 wild _ g iv w s (by omega) rfl xs nv lv h (by omega)
theorem kind_next (wild:Bool)(d N:Nat)(c:N≤900000)(a:d≤2)(b:ab3 wild d (N+10)):ab3 wild (d+1) N:=by
 intro g iv w s xs nv lv h e;by_cases h0:s.nx % 4=0
 ·rw [show acQ wild (d+1) s=acV [([],3,[105,110,116])] s.tl ⟨30,[],0,[],0⟩ by rw [acQ,if_pos h0]];exact kd_int wild _ g iv w s h0 xs nv lv h (by omega)
 by_cases h1:s.nx % 4=1
 ·rw [show acQ wild (d+1) s=acV [([],3,[98,111,111,108])] s.tl ⟨31,[],0,[],0⟩ by rw [acQ,if_neg h0,if_pos h1]];exact kd_bool wild _ g iv w s h1 xs nv lv h (by omega)
 by_cases h2:s.nx % 4=2
 ·rw [show acQ wild (d+1) s=acV [([],1,acM s.nx)] s.tl ⟨32,acM s.nx,0,[],0⟩ by rw [acQ,if_neg h0,if_neg h1,if_pos h2]];exact kd_name wild _ g iv w s h2 xs nv lv h (by omega)
 ·exact kd_list wild d N c a b g iv w s xs nv lv h e (by omega)
theorem vo (wild:Bool):ab3 wild 2 800000:=kind_next wild 1 _ (by omega) (by omega) (kind_next wild 0 _ (by omega) (by omega) (kind_zero wild _ (by omega)))
end Go.Proofs.YthepmkjggfijoaaGreatDoor
