/-
  A part of the proof.
-/
import Derived.Test.YthepmkjggfijoaaGreatDoorSA
import Derived.Deep.RegionHeld3
import Derived.Test.YthepmkjggfijoaaGreatDoorShelf
import Derived.Test.YthepmkjggfijoaaGreatDoorS21
import Derived.Test.YthepmkjggfijoaaGreatDoorJ03
import Derived.Test.YthepmkjggfijoaaGreatDoorJ04
set_option linter.all false
set_option maxRecDepth 100000
set_option maxHeartbeats 4000000
open Go.Lib (hid)
namespace Go.Proofs.YthepmkjggfijoaaGreatDoor
open Go.RowKit Mist
attribute [local go_sem] aj aH aS aB ak
theorem grow_low (w:World)(k:Nat)(os:Array Obj):Below w.heap.size w (Go.Sort.grow (w.drewN k) os) :=
 ⟨rfl,rfl,rfl,by show w.heap.size≤(w.heap ++ os).size;rw [Array.size_append];omega,fun b hb=>Array.getElem?_append_left hb⟩
theorem plItoa_any (n:Int)(h0:-1000000≤n)(h1:n≤1000000)(g:Nat)(wild:Bool)(iv:Value)(w:World)(s:abd)(xs:List NV)(nv lv:Value)(h:abH g wild iv w s xs nv lv) :
  Calls Tryz.prog 77 #[.int .i64 n] w fun e w'=>e=.returned (.string (aM (Go.Lib.itoa n)))∧Below w.heap.size w w':=by
 refine (Tryz.strconv_Itoa n (by omega) (by omega) w h.pow.here).mono ?_;rintro e w' ⟨rfl,k,os,rfl⟩;exact⟨rfl,grow_low w k os⟩
def GPost (g:Nat)(wild:Bool)(iv:Value)(w:World)(xs:List NV)(nv:Value)(r:abb)(e:Ending)(w':World):Prop :=
 e=.returned (.tuple #[.string (aM (aN r.pc)),.int .i64 r.ix])∧∃ xs' eO lv',abH g wild iv w' r.st xs' eO lv'∧abJ g w xs nv w' xs' eO
def abO (wild:Bool)(d N:Nat):Prop:=∀ (g:Nat) (iv:Value) (w:World) (s:abd) (xs:List NV) (nv lv:Value),abH g wild iv w s xs nv lv→s.ns.length≤N →
 Calls Tryz.prog 117 #[.pointer (some ⟨g,0,none⟩),.int .i64 (d:Int)] w (GPost g wild iv w xs nv (acG wild d s))
section
variable {g:Nat} {wild:Bool} {iv:Value} {w w1 w2:World} {xs xs1:List NV} {nv gW lv:Value} {s s1:abd}
theorem abJ.of_mv (xs:List NV)(m:Mv g nv.ownBlock w nv.ownBlock w1):abJ g w xs nv w1 xs nv:=⟨m,[],by simp,fun y hy=>by cases hy⟩
theorem abJ.mvp (h:abJ g w xs nv w1 xs1 gW)(k:Mv g gW.ownBlock w1 gW.ownBlock w2):abJ g w xs nv w2 xs1 gW:=⟨h.mv.trans k,h.new⟩
theorem abJ.putp {Qu:Value}{x:NV}(h:abJ g w xs nv w1 xs1 gW)(k:Mv g gW.ownBlock w1 Qu.ownBlock w2)(hx:∀ b,x.2.ownBlock=some b→w.heap.size≤b):abJ g w xs nv w2 (xs1 ++ [x]) Qu:=by
 obtain⟨ys,e,hy⟩:=h.new
 refine⟨h.mv.trans k,ys ++ [x],by rw [e,List.append_assoc],fun y hm b hb=>?_⟩
 rcases List.mem_append.1 hm with hm | hm
 ·exact hy y hm b hb
 ·rw [List.mem_singleton.1 hm] at hb;exact hx b hb
end
theorem run_bools (r:Nat)(h:r < 2)(w:World):Sem.run Tryz.prog (Instr.index 90 (.agg #[.string ⟨#[102,97,108,115,101]⟩,.string ⟨#[116,114,117,101]⟩]) (.int .i64 r)) w=.ok (.string (aM (if r=0 then [102,97,108,115,101] else [116,114,117,101]))) w:=by
 obtain rfl | rfl:r=0∨r=1:=by omega
 all_goals kernel_rfl
theorem numPc_text (n:Int):aN (numPc n)=Go.Lib.itoa n:=by
 unfold numPc;split
 ·rename_i h
  show [] ++ ([45] ++ ([] ++ (Go.Lib.itoa (-n) ++ [])))=_
  unfold Go.Lib.itoa;rw [if_pos h,if_neg (by omega)];simp only [List.nil_append,List.append_nil];rw [show (-n).toNat=n.natAbs by omega];rfl
 ·show [] ++ (Go.Lib.itoa n ++ [])=_
  simp
theorem itemText_one (g:Bs)(k:Nat)(t:Bs):aN [(g,k,t)]=g ++ t:=by show g ++ (t ++ [])=_;rw [List.append_nil]
theorem expr_leaf (d:Int)(hd:0≤d)(g:Nat)(wild:Bool)(iv:Value)(w:World)(s:abd)(xs:List NV)(nv lv:Value)(h:abH g wild iv w s xs nv lv)(hn:s.ns.length≤950000)(b:Nat)(hb:b < 60)(hbd:(d=0∧b=s.nx % 60)∨(0 < d∧b=s.nx)) :
  Calls Tryz.prog 117 #[.pointer (some ⟨g,0,none⟩),.int .i64 d] w (GPost g wild iv w xs nv (leafG b s.tl)):=by
 have H:=hid h;clear h;have HX:=hid (show (d=0∧b=s.nx % 60)∨(0 < d∧b=s.nx) from hbd);have hs1:s.tl.ns.length≤1000000:=by show s.ns.length≤_;omega
 have hcase:∃ x:Nat,s.nx=x∧((d=0∧Int.tmod (x:Int) 60=(b:Int))∨(0 < d∧b=x)):=⟨s.nx,rfl,by
  rcases hbd with ⟨h1,h2⟩ | ⟨h1,h2⟩
  ·exact .inl ⟨h1,by rw [Int.tmod_eq_emod_of_nonneg (by omega),h2];omega⟩
  ·exact .inr ⟨h1,h2⟩⟩
 obtain⟨x,hx,hc⟩:=hcase;have HN:=hid hx;clear hbd hx HX;by_cases h20:b < 20
 ·have HL:=hid (show leafG b s.tl=acP (numPc ((b:Int) * 7)) s.tl ⟨1,[],(b:Int) * 7,[],0⟩ by unfold leafG;rw [if_pos h20,show ((b * 7:Nat):Int)=(b:Int) * 7 by omega]);have z20:(b:Int) < 20:=by omega
  have abP:IntKind.i64.wrap ((b:Int) * 7)=(b:Int) * 7:=IntWalk.i64_in _ (by omega);go_in
  go_wp2_with fail;refine (acU g wild iv _ s xs nv lv H.out).mono ?_;rintro e w1⟨rfl,lv1,h1,m1⟩;have H1:=hid h1;have M1:=hid (abJ.of_mv xs m1);clear h1 m1;rw [HN.out];rcases hc with ⟨rfl,hm⟩ | ⟨hd0,rfl⟩
  all_goals
   go_wp2_with fail;refine (plItoa_any _ (by omega) (by omega) g wild iv _ s.tl xs nv lv1 H1.out).mono ?_;rintro e w2⟨rfl,hb2⟩;have H2:=hid (H1.out.below hb2);have M2:=hid (M1.out.aL hb2);clear hb2;go_wp2_with fail;refine (plPut_any g wild iv _ s.tl xs nv lv1 H2.out 1 [] _ _ [] (cB.none_ _) hs1).mono ?_;rintro e w3⟨rfl,FM,h3,m3⟩;have H3:=hid h3;have M3:=hid (M2.out.putp (x:=(⟨1,[],(b:Int) * 7,[],0⟩,.slice none 0 0)) m3 gw_none);clear h3 m3;go_wp2_with fail;go_ret2
   rw [HL.out];exact⟨by show _=Ending.returned (.tuple #[.string (aM (aN (numPc ((b:Int) * 7)))),.int .i64 s.tl.id]);rw [numPc_text];rfl,_,FM,lv1,H3.out,M3.out⟩
 have z20:¬ (b:Int) < 20:=by omega
 by_cases Du:b < 30
 ·obtain⟨r,hr⟩:∃ r,r=b % 2:=⟨_,rfl⟩;have HL:=hid (show leafG b s.tl=acP [([],3,if r=0 then [102,97,108,115,101] else [116,114,117,101])] s.tl ⟨2,[],(r:Int),[],0⟩ by unfold leafG;rw [if_neg h20,if_pos Du,hr]);have z30:(b:Int) < 30:=by omega
  have hm2:Int.tmod (b:Int) 2=(r:Int):=by rw [Int.tmod_eq_emod_of_nonneg (by omega),hr];omega
  have hr2:r < 2:=by omega
  have hrun0:=run_bools r hr2;obtain⟨T,hT⟩:∃ T:Bs,T=if r=0 then [102,97,108,115,101] else [116,114,117,101]:=⟨_,rfl⟩
  rw [← hT] at HL
  have hrun:∀ w,Sem.run Tryz.prog (Instr.index 90 (.agg #[.string ⟨#[102,97,108,115,101]⟩,.string ⟨#[116,114,117,101]⟩]) (.int .i64 r)) w=.ok (.string (aM T)) w:=by rw [hT];exact hrun0
  clear hrun0;have z0:(0:Int)≤(r:Int):=by omega
  have z1:(r:Int) < 2:=by omega
  clear hr hT;go_in
  go_wp2_with fail;refine (acU g wild iv _ s xs nv lv H.out).mono ?_;rintro e w1⟨rfl,lv1,h1,m1⟩;have H1:=hid h1;have M1:=hid (abJ.of_mv xs m1);clear h1 m1;rw [HN.out];rcases hc with ⟨rfl,hm⟩ | ⟨hd0,rfl⟩
  all_goals
   go_wp2_with fail;go_region_held3 (fun _=>True) (trivial) ((go_at_call 114;refine (plPut_any g wild iv _ s.tl xs nv lv1 (by first | exact H1.out | exact H1.out.drew) 2 [] _ _ [] (cB.none_ _) hs1).mono ?_;rintro e w3⟨rfl,FM,h3,m3⟩;have H3:=hid h3;have M3:=hid (M1.out.putp (x:=(⟨2,[],(r:Int),[],0⟩,.slice none 0 0)) (by first | exact m3 | exact (Mv.Zp Mv.refl).trans m3) gw_none);clear h3 m3))
   all_goals
    go_wp2_with fail;go_ret2
    rw [HL.out];exact⟨by show _=Ending.returned (.tuple #[.string (aM (aN [([],3,T)])),.int .i64 s.tl.id]);rw [itemText_one];rfl,_,FM,lv1,H3.out,M3.out⟩
 have z30:¬ (b:Int) < 30:=by omega
 have HL:=hid (show leafG b s.tl=acP [([],1,acH b)] s.tl ⟨3,acH b,0,[],0⟩ by unfold leafG;rw [if_neg h20,if_neg Du]);have z60:(b:Int) < 60:=by omega
 go_in
 go_wp2_with fail;refine (acU g wild iv _ s xs nv lv H.out).mono ?_;rintro e w1⟨rfl,lv1,h1,m1⟩;have H1:=hid h1;have M1:=hid (abJ.of_mv xs m1);clear h1 m1;rw [HN.out];rcases hc with ⟨rfl,hm⟩ | ⟨hd0,rfl⟩
 all_goals
  go_wp2_with fail;refine (plWord_any b _).mono ?_;rintro e w2⟨rfl,rfl⟩;go_wp2_with fail;refine (plWord_any b _).mono ?_;rintro e w2⟨rfl,rfl⟩;go_wp2_with fail;refine (plPut_any g wild iv _ s.tl xs nv lv1 H1.out 3 (acH b) _ _ [] (cB.none_ _) hs1).mono ?_;rintro e w3⟨rfl,FM,h3,m3⟩;have H3:=hid h3;have M3:=hid (M1.out.putp (x:=(⟨3,acH b,0,[],0⟩,.slice none 0 0)) m3 gw_none);clear h3 m3;go_wp2_with fail;go_ret2
  rw [HL.out];exact⟨by show _=Ending.returned (.tuple #[.string (aM (aN [([],1,acH b)])),.int .i64 s.tl.id]);rw [itemText_one];rfl,_,FM,lv1,H3.out,M3.out⟩
end Go.Proofs.YthepmkjggfijoaaGreatDoor
namespace Go.Proofs.YthepmkjggfijoaaGreatDoor
open Go.RowKit Mist
attribute [local go_sem] aj aH aS aB ak
theorem on_text {I:Pcs}(h:abe I)(g:Bs):aN (Pcs.on g I)=g ++ aN I:=h.start.text g
def LiPost (g:Nat)(wild:Bool)(iv:Value)(w:World)(xs:List NV)(nv:Value)(r:aa')(e:Ending)(w':World):Prop :=
 ∃ A c xs' eO lv',e=.returned (.tuple #[.string (aM (aN r.pc)),.slice A r.ix.length c])∧abK w w' xs' (.slice A r.ix.length c) r.ix∧abH g wild iv w' r.st xs' eO lv'∧abJ g w xs nv w' xs' eO
theorem d_le_Lb:∀ d,d≤abN d
 | 0=>aaL _
 | d+1=>by have:=d_le_Lb d;unfold abN;omega
theorem plList_any (wild:Bool)(d:Nat)(N:Nat)(hN:N≤900000)(hE:abO wild d (N+50000))(hL:abN d≤100000)(hC:abM d≤10000)(m:Nat)(hm:m≤4)(g:Nat)(iv:Value)(w:World)(s:abd)(xs:List NV)(nv lv:Value)(h:abH g wild iv w s xs nv lv)(hn:s.ns.length≤N) :
  Calls Tryz.prog 176 #[.pointer (some ⟨g,0,none⟩),.int .i64 (m:Int),.int .i64 ((d:Int)+1)] w (LiPost g wild iv w xs nv (acS wild (acG wild d) m ⟨[],[],s⟩)):=by
 have H0:=hid h;have M0:=hid (abJ.refl (g:=g) (w:=w) (xs:=xs) (nv:=nv));clear h;have hg0:=H0.out.lt;obtain⟨j0,hj0,hy0,hy1,hy2⟩:=info_parts gN;have BE:=hid (expr_bd wild d);have HL:=hid (abK.empty (w0:=w) H0.out rfl (aaJ _));have H1:=hid (H0.out.alloc (.cells #[] 3));have M1:=hid (M0.out.dD (o:=.cells #[] 3));have HEC:=hid hE;have hdl:=d_le_Lb d;have zd:IntKind.i64.wrap ((d:Int)+1 - 1)=(d:Int):=by rw [Int.add_sub_cancel];exact IntWalk.i64_in _ ⟨by omega,by omega⟩
 clear hE H0 M0;go_in
 go_wp2_with fail;go_loopw [8,9,10] (fun sv l0 i wr=>∃ (k:Nat) (r:aa') (A:Option Addr) (c:Nat) (xs1:List NV) (gW lv1:Value),k≤m∧i=.int .i64 k∧sv=.string (aM (aN r.pc))∧l0=.slice A r.ix.length c∧Hid (r.ix.length=k)∧(aN r.pc).length≤k * 100009∧r.st.ns.length≤N+k * 10000∧Hid (acS wild (acG wild d) (m - k) r=acS wild (acG wild d) m ⟨[],[],s⟩)∧Hid (LIv r)∧Hid (abK w wr xs1 (.slice A r.ix.length c) r.ix)∧Hid (abH g wild iv wr r.st xs1 gW lv1)∧Hid (abJ g w xs nv wr xs1 gW)) (fun _ _ i _=>m - (intOf i).toNat)
 case atStart=>exact⟨0,⟨[],[],s⟩,_,_,xs,nv,lv,aaL _,rfl,rfl,rfl,hid rfl,by simp [aN],by simpa using hn,hid rfl,hid (li0 s),HL,H1,M1⟩
 case round =>
  clear HL H1 M1;obtain⟨wo,rfl⟩:∃ wo:World,wo=wr:=⟨_,rfl⟩;obtain⟨k,r,A,c,xs1,gW,lv1,hk,rfl,rfl,rfl,hix,hlen,hnl,HR,HI,L,H,M⟩:=hrel;by_cases hlt:k < m
  ·obtain⟨mm,hmm⟩:∃ mm,m - k=mm+1:=⟨m - k - 1,by omega⟩;have hmm2:m - (k+1)=mm:=by omega
   rw [hmm] at HR
   have U1:=hid hmm2;clear hmm hmm2;have HX:=hid (show aN r.pc=aN r.pc from rfl);obtain⟨X,hX⟩:∃ X,X=aN r.pc:=⟨_,rfl⟩;rw [← hX] at hlen ⊢
   replace HX:=hid hX
   clear hX;by_cases hk0:k=0
   ·subst hk0;have hnil:r.ix=[]:=List.eq_nil_of_length_eq_zero hix.out;have HNX:=hid (show acS wild (acG wild d) (mm+1) r=acS wild (acG wild d) mm ⟨r.pc ++ (acG wild d r.st).pc,r.ix ++ [(acG wild d r.st).ix],(acG wild d r.st).st⟩ by rw [acS,if_pos hnil]);have HNI:=hid (show LIv ⟨r.pc ++ (acG wild d r.st).pc,r.ix ++ [(acG wild d r.st).ix],(acG wild d r.st).st⟩ from ⟨fun h=>by simp at h,fun _=>by show abe (r.pc ++ _);rw [HI.out.1 hnil];exact expr_good wild d _⟩);clear hnil;go_wp2_with fail;refine (HEC.out g iv _ r.st xs1 gW lv1 H.out (by omega)).mono ?_;rintro e w2⟨rfl,xs2,Qu,lv2,h2,m2⟩;have H2:=hid h2;have M2:=hid (M.out.trans m2);have L2:=hid (L.out.mw H.out m2);clear h2 m2;have bt:=BE.out.text r.st;have abI:=BE.out.nodes r.st;obtain⟨a,ha⟩:∃ a,a=acG wild d r.st:=⟨_,rfl⟩;rw [← ha] at HNX H2 bt abI ⊢
    obtain⟨T,hT⟩:∃ T,T=aN a.pc:=⟨_,rfl⟩;have hTl:T.length≤100000:=by rw [hT];exact Nat.le_trans bt hL
    rw [← hT];have HT:=hid hT;rw [← ha] at HNI
    clear hT ha bt;have LA:=hid (L2.out.alloc (.cells #[.int .i64 a.ix] 3));have HA:=hid (H2.out.alloc (.cells #[.int .i64 a.ix] 3));have MA:=hid (M2.out.dD (o:=(.cells #[.int .i64 a.ix] 3)));have hms:=MA.out.size;have hxl:¬ 9223372036854775807 < X.length+T.length:=by omega
    have hrl:r.ix.length≤4:=by have:=hix.out;omega
    go_wp2_with (at_builtin;go_loud (refine wpList_append_lies _ rfl (.tmp 36) (.tmp 38) 24 rfl 0 3 j0 (.int .i64 0) 1 8 Tryz.underlying24 hj0 hy0 hy1 hy2 rfl (by decide) _ r.ix.length (intCells r.ix) rfl LA.out.row ⟨w2.heap.size,0,none⟩ 1 1 [.int .i64 a.ix] rfl rfl (cell_one_new _ _ _) (by simp [Value.oneCell']) (by omega) (by simp only [maxLen];omega) (by omega) (aaL _) _ rfl ?_);intro gg14 cap14 Tx hown hgrow hat hlt;have L3:=hid (LA.out.grow HA.out hown hat hms);have H3:=hid (HA.out.grow LA.out hgrow (fun b hb=>aaK (aaW hg0 (LA.out.lo b hb))));have M3:=hid (MA.out.grow LA.out hgrow);clear hown hgrow hat hlt)
    clear LA HA MA hms L2 H2 M2;exact⟨⟨0+1,_,_,_,_,_,_,by omega,by go_num,congrArg Value.string (congrArg aM (show X ++ T=aN (r.pc ++ a.pc) by rw [qZ,HX.out,HT.out])),by rw [aaO];rfl,hid (by rw [aaO,hix.out];rfl),by rw [qZ,← HX.out,← HT.out,aaO];omega,by show a.st.ns.length≤_;omega,hid (by show acS wild (acG wild d) (m - (0+1)) _=_;rw [U1.out,← HNX.out,HR.out]),HNI,by rw [aaO];exact L3,H3,M3⟩,by simp [intOf];omega⟩
   ·have hne:r.ix ≠ []:=fun h=>hk0 (by rw [← hix.out,h];rfl)
    have HNX:=hid (show acS wild (acG wild d) (mm+1) r=acS wild (acG wild d) mm ⟨r.pc ++ (sgn [44] :: Pcs.on (acM wild r.st) (acG wild d (acC wild r.st)).pc),r.ix ++ [(acG wild d (acC wild r.st)).ix],(acG wild d (acC wild r.st)).st⟩ by rw [acS,if_neg hne])
    have HNI:=hid (show LIv ⟨r.pc ++ (sgn [44] :: Pcs.on (acM wild r.st) (acG wild d (acC wild r.st)).pc),r.ix ++ [(acG wild d (acC wild r.st)).ix],(acG wild d (acC wild r.st)).st⟩ from by
     have:=list_good wild (expr_good wild d) 1 r HI.out
     rw [acS,if_neg hne,acS] at this
     exact this)
    have HTX:=hid ((expr_good wild d (acC wild r.st)).start.text (acM wild r.st));have abQ:(0:Int) < (k:Int):=by omega
    clear hne hk0;go_wp2_with fail;refine (plGap_any g wild iv _ r.st xs1 gW lv1 H.out).mono ?_;rintro e w1⟨rfl,lvg,h1,m1⟩;have H1:=hid h1;have M1:=hid (M.out.mvp m1);have L1:=hid (L.out.mv H.out m1);clear h1 m1;have Fb:=gapG_len wild r.st;obtain⟨G,hG⟩:∃ G,G=acM wild r.st:=⟨_,rfl⟩;rw [← hG] at Fb HNX HNI HTX ⊢
    have hx1:¬ 9223372036854775807 < 1+G.length:=by omega
    have hx2:¬ 9223372036854775807 < X.length+(1+G.length):=by omega
    clear hG H M L;go_wp2_with fail;obtain⟨Y,hY⟩:∃ Y,Y=X ++ ([44] ++ G):=⟨_,rfl⟩;have hYl:Y.length=X.length+(1+G.length):=by rw [hY,aaO,aaO];rfl
    rw [show (aM X ++ ((⟨#[44]⟩:ByteArray) ++ aM G))=aM Y from by rw [hY,← ak,← ak];rfl];have HY:=hid hY;clear hY hx1 hx2;refine (HEC.out g iv _ (acC wild r.st) xs1 gW lvg H1.out (by rw [acD];omega)).mono ?_;rintro e w2⟨rfl,xs2,Qu,lv2,h2,m2⟩;have H2:=hid h2;have M2:=hid (M1.out.trans m2);have L2:=hid (L1.out.mw H1.out m2);clear h2 m2;have bt:=BE.out.text (acC wild r.st);have abI:=BE.out.nodes (acC wild r.st);obtain⟨a,ha⟩:∃ a,a=acG wild d (acC wild r.st):=⟨_,rfl⟩;rw [← ha] at HNX H2 bt abI ⊢
    obtain⟨T,hT⟩:∃ T,T=aN a.pc:=⟨_,rfl⟩;rw [acD] at abI
    have hTl:T.length≤100000:=by rw [hT];exact Nat.le_trans bt hL
    rw [← hT];have HT:=hid hT;rw [← ha] at HNI HTX
    clear hT ha bt;have LA:=hid (L2.out.alloc (.cells #[.int .i64 a.ix] 3));have HA:=hid (H2.out.alloc (.cells #[.int .i64 a.ix] 3));have MA:=hid (M2.out.dD (o:=(.cells #[.int .i64 a.ix] 3)));have hms:=MA.out.size;have hxl:¬ 9223372036854775807 < Y.length+T.length:=by omega
    have hrl:r.ix.length≤4:=by have:=hix.out;omega
    go_wp2_with (at_builtin;go_loud (refine wpList_append_lies _ rfl (.tmp 36) (.tmp 38) 24 rfl 0 3 j0 (.int .i64 0) 1 8 Tryz.underlying24 hj0 hy0 hy1 hy2 rfl (by decide) _ r.ix.length (intCells r.ix) rfl LA.out.row ⟨w2.heap.size,0,none⟩ 1 1 [.int .i64 a.ix] rfl rfl (cell_one_new _ _ _) (by simp [Value.oneCell']) (by omega) (by simp only [maxLen];omega) (by omega) (aaL _) _ rfl ?_);intro gg14 cap14 Tx hown hgrow hat hlt;have L3:=hid (LA.out.grow HA.out hown hat hms);have H3:=hid (HA.out.grow LA.out hgrow (fun b hb=>aaK (aaW hg0 (LA.out.lo b hb))));have M3:=hid (MA.out.grow LA.out hgrow);clear hown hgrow hat hlt)
    clear LA HA MA hms L2 H2 M2
    exact⟨⟨k+1,_,_,_,_,_,_,by omega,by go_num,congrArg Value.string (congrArg aM (show Y ++ T=aN (r.pc ++ (sgn [44] :: Pcs.on G a.pc)) by
     rw [qZ,HY.out,HX.out,HT.out]
     show _=aN r.pc ++ ([] ++ ([44] ++ aN (Pcs.on G a.pc)))
     rw [HTX.out];simp only [List.nil_append,List.append_assoc])),by rw [aaO];rfl,hid (by rw [aaO,hix.out];rfl),by
      rw [show aN (r.pc ++ (sgn [44] :: Pcs.on G a.pc))=Y ++ T from by
       rw [qZ,HY.out,HX.out,HT.out]
       show aN r.pc ++ ([] ++ ([44] ++ aN (Pcs.on G a.pc)))=_
       rw [HTX.out];simp only [List.nil_append,List.append_assoc],aaO]
      omega,by show a.st.ns.length≤_;omega,hid (by rw [U1.out,← HNX.out,HR.out]),HNI,by rw [aaO];exact L3,H3,M3⟩,by simp [intOf];omega⟩
  ·obtain rfl:k=m:=by omega
   have HRR:=hid (show acS wild (acG wild d) k ⟨[],[],s⟩=r by rw [← HR.out,Nat.sub_self];rfl);clear HR;go_wp2_with fail;go_ret2
   rw [HRR.out];exact⟨A,c,xs1,gW,lv1,rfl,L.out,H.out,M.out⟩
end Go.Proofs.YthepmkjggfijoaaGreatDoor
namespace Mist
theorem one_le (g t:Bs)(k n:Nat)(hg:g.length+t.length≤n):tl [(g,k,t)]≤n:=by
 rw [acQ,tl_nil];omega
theorem on_le (wild:Bool)(z:abd)(I:Pcs):tl (Pcs.on (acM wild z) I)≤8+tl I:=Nat.le_trans (tl_on _ I) (Nat.add_le_add_right (gap_le wild z) _)
theorem put_len (s:abd)(n:Nd):(s.put n).ns.length=s.ns.length+1:=aaO
theorem kind_bd (wild:Bool):∀ (d:Nat) (s:abd),tl (acI wild d s).pc≤14 * d+4∧(acI wild d s).st.ns.length≤s.ns.length+(d+1):=by
 have leaf:∀ (s:abd) (t:Bs) (k:Nat) (n:Nd),t.length≤4→tl (acP [([],k,t)] s.tl n).pc≤4∧(acP [([],k,t)] s.tl n).st.ns.length=s.ns.length+1:=fun s t k n ht =>
  ⟨one_le [] t k 4 (by simpa using ht),put_len _ _⟩
 intro d
 induction d with
 | zero =>
  intro s;rw [acI];split
  ·obtain⟨h1,h2⟩:=leaf s [105,110,116] 3 ⟨30,[],0,[],0⟩ (by decide);exact⟨by omega,by omega⟩
  split
  ·obtain⟨h1,h2⟩:=leaf s [98,111,111,108] 3 ⟨31,[],0,[],0⟩ (by decide);exact⟨by omega,by omega⟩
  ·obtain⟨h1,h2⟩:=leaf s (acH s.nx) 1 ⟨32,acH s.nx,0,[],0⟩ (wordG_le _);exact⟨by omega,by omega⟩
 | succ d ih =>
  intro s;rw [acI];split
  ·obtain⟨h1,h2⟩:=leaf s [105,110,116] 3 ⟨30,[],0,[],0⟩ (by decide);exact⟨by omega,by omega⟩
  split
  ·obtain⟨h1,h2⟩:=leaf s [98,111,111,108] 3 ⟨31,[],0,[],0⟩ (by decide);exact⟨by omega,by omega⟩
  split
  ·obtain⟨h1,h2⟩:=leaf s (acH s.nx) 1 ⟨32,acH s.nx,0,[],0⟩ (wordG_le _);exact⟨by omega,by omega⟩
  ·simp only
   obtain⟨h1,h2⟩:=ih s.tl;have h2:(acI wild d s.tl).st.ns.length≤s.ns.length+(d+1):=h2;have hg:=gap_le wild (acI wild d s.tl).st.tl;have hn:(acI wild d s.tl).st.nx % 6 < 6:=Nat.mod_lt _ (by decide);have hi:=itoa_le ⟨1+(acI wild d s.tl).st.nx % 6,by omega⟩
   refine⟨?_,?_⟩
   ·show tl (sgn [91] :: ((acI wild d s.tl).pc ++ [(_,4,[59]),([],2,_),sgn [93]]))≤_
    simp only [tl_sgn,tl_append,acQ,tl_nil,List.length_cons,List.length_nil];simp only at hi
    omega
   ·show (abd.put _ _).ns.length≤_
    rw [put_len,acD]
    show (acI wild d s.tl).st.ns.length+1≤_
    omega
theorem params_bd (wild:Bool):∀ (m:Nat) (r:aa'),tl (acL wild m r).pc≤tl r.pc+m * 60∧(acL wild m r).st.ns.length≤r.st.ns.length+m * 4∧(acL wild m r).ix.length=r.ix.length+m
 | 0,r=>⟨by rw [acL];omega,by rw [acL];omega,rfl⟩
 | m+1,r=>by
  rw [acL];obtain⟨s0,hs0⟩:∃ s0,s0=if r.ix=[] then r.st else acC wild r.st:=⟨_,rfl⟩
  have hn0:s0.ns=r.st.ns:=by rw [hs0];split;rfl;exact acD wild r.st
  obtain⟨g,hg⟩:∃ g:Bs,g=if r.ix=[] then [] else acM wild r.st:=⟨_,rfl⟩
  have hgl:g.length≤8:=by rw [hg];split;(exact aaL _);exact gap_le wild r.st
  simp only [← hs0,← hg];obtain⟨h1,h2⟩:=kind_bd wild 2 s0.tl;have h2:(acI wild 2 s0.tl).st.ns.length≤r.st.ns.length+3:=by rw [← hn0];exact h2
  have h3:=on_le wild (acI wild 2 s0.tl).st (acI wild 2 s0.tl).pc;have h4:=wordG_le s0.nx
  have hI:tl (if r.ix=[] then ((g,1,acH s0.nx) :: sgn [58] :: Pcs.on (acM wild (acI wild 2 s0.tl).st) (acI wild 2 s0.tl).pc:Pcs) else sgn [44] :: (g,1,acH s0.nx) :: sgn [58] :: Pcs.on (acM wild (acI wild 2 s0.tl).st) (acI wild 2 s0.tl).pc)≤60:=by
   split
   ·rw [acQ,tl_sgn];simp only [aaT];omega
   ·rw [tl_sgn,acQ,tl_sgn];simp only [aaT];omega
  have ih:=params_bd wild m ⟨r.pc ++ (if r.ix=[] then ((g,1,acH s0.nx) :: sgn [58] :: Pcs.on (acM wild (acI wild 2 s0.tl).st) (acI wild 2 s0.tl).pc:Pcs) else sgn [44] :: (g,1,acH s0.nx) :: sgn [58] :: Pcs.on (acM wild (acI wild 2 s0.tl).st) (acI wild 2 s0.tl).pc),r.ix ++ [(acC wild (acI wild 2 s0.tl).st).id],(acC wild (acI wild 2 s0.tl).st).put ⟨34,acH s0.nx,0,[(acI wild 2 s0.tl).ix],0⟩⟩;simp only [tl_append,aaO,aaT,put_len,acD] at ih
  obtain⟨i1,i2,i3⟩:=ih;exact⟨by omega,by omega,by omega⟩
theorem lb4:abN 4=10548:=rfl
theorem cb4:abM 4=681:=rfl
theorem lb3:abN 3=2612:=rfl
theorem cb3:abM 3=169:=rfl
theorem query_le (q:Nat)(h:q≤8):(sg queriesG q).length≤6:=by
 have:∀ g ∈ queriesG,g.length≤6:=by decide
 exact this _ (sg_mem queriesG _ (by show q < 9;omega))
theorem ask_bd (wild:Bool)(q:Nat)(hq:q≤8)(s:abd):tl (askG wild q s).pc≤11000∧(askG wild q s).st.ns.length≤s.ns.length+800:=by
 unfold askG;simp only
 obtain⟨m,hm⟩:∃ m,m=if q=7 then 0 else if q=8 then 1+s.nx % 4 else 1:=⟨_,rfl⟩
 have hm4:m≤4:=by rw [hm];split;omega;split <;> omega
 obtain⟨s1,hs1⟩:∃ s1,s1=if q=8 then s.tl else s:=⟨_,rfl⟩
 have e1:s1.ns=s.ns:=by rw [hs1];split <;> rfl
 rw [← hm,← hs1];obtain⟨l1,l2,_⟩:=list_bd wild (expr_bd wild 3) m ⟨[],[],s1⟩;rw [tl_nil,lb3] at l1
 rw [cb3] at l2
 have l2:(acS wild (acG wild 3) m ⟨[],[],s1⟩).st.ns.length≤s.ns.length+m * 169:=by rw [← e1];exact l2
 have m1:m * (2612+9)≤4 * (2612+9):=Nat.mul_le_mul_right _ hm4;have m2:m * 169≤4 * 169:=Nat.mul_le_mul_right _ hm4;have hg:=gap_le wild (acS wild (acG wild 3) m ⟨[],[],s1⟩).st;have hqq:=query_le q hq;have ho:=tl_on [32] (acS wild (acG wild 3) m ⟨[],[],s1⟩).pc
 refine⟨?_,?_⟩
 ·show tl (_ :: _ :: Pcs.on [32] _)≤_
  rw [acQ,acQ];simp only [List.length_cons,List.length_nil] at ho ⊢
  omega
 ·show (abd.put _ _).ns.length≤_
  rw [put_len,acD];omega
theorem num_bd (n:Int)(h1:-140 < n)(h2:n < 140)(s:abd):tl (acT n s).pc≤4∧(acT n s).st.ns.length=s.ns.length+1:=⟨numPc_le n h1 h2,put_len _ _⟩
theorem upto_le (s:abd):uptoN s≤8:=by unfold uptoN;split <;> omega
theorem item_bd (wild:Bool)(s:abd):tl (itemG0 wild s).pc≤11990∧(itemG0 wild s).st.ns.length≤s.ns.length+900:=by
 unfold itemG0;simp only
 generalize hs:s.tl.tl=s'
 have hss:s'.ns=s.ns:=by rw [← hs];rfl
 rw [← hss];have hw:=wordG_le s.tl.nx
 generalize acH s.tl.nx=x at *
 have gl:=gap_le wild;split
 ·unfold chooseG;simp only
  obtain⟨low,hlow⟩:∃ low:Int,low=((s'.nx % 30:Nat):Int) - 15:=⟨_,rfl⟩;rw [← hlow];obtain⟨k,hk⟩:∃ k,k=(acT low s'.tl).st.nx % 12:=⟨_,rfl⟩;rw [← hk];have h1:=num_bd low (by omega) (by omega) s'.tl;have h2:=num_bd (low+(k:Int)) (by omega) (by omega) (acT low s'.tl).st.tl;have h1b:(acT low s'.tl).st.ns.length=s'.ns.length+1:=h1.2;have h2b:(acT (low+(k:Int)) (acT low s'.tl).st.tl).st.ns.length=(acT low s'.tl).st.ns.length+1:=h2.2;have o1:=on_le wild (acT (low+(k:Int)) (acT low s'.tl).st.tl).st (acT low s'.tl).pc;have o2:=on_le wild (acC wild (acC wild (acT (low+(k:Int)) (acT low s'.tl).st.tl).st)) (acT (low+(k:Int)) (acT low s'.tl).st.tl).pc;have g1:=gl (acC wild (acT (low+(k:Int)) (acT low s'.tl).st.tl).st);unfold acP
  refine⟨?_,?_⟩
  ·simp only [acQ,tl_sgn,tl_append,List.length_cons,List.length_nil];omega
  ·show (abd.put _ _).ns.length≤_
   rw [put_len,acD,acD,acD];omega
 split
 ·unfold typeG acP;simp only
  obtain⟨l1,l2,_⟩:=params_bd wild (1+s'.nx % 6) ⟨[],[],s'.tl⟩;rw [tl_nil] at l1
  have l2:(acL wild (1+s'.nx % 6) ⟨[],[],s'.tl⟩).st.ns.length≤s'.ns.length+(1+s'.nx % 6) * 4:=l2
  refine⟨?_,?_⟩
  ·simp only [acQ,tl_sgn,tl_append,tl_nil,List.length_cons,List.length_nil];omega
  ·show (abd.put _ _).ns.length≤_
   rw [put_len];omega
 split
 ·unfold funG acP;simp only
  obtain⟨l1,l2,_⟩:=params_bd wild (s'.nx % 5) ⟨[],[],s'.tl⟩;rw [tl_nil] at l1
  have l2:(acL wild (s'.nx % 5) ⟨[],[],s'.tl⟩).st.ns.length≤s'.ns.length+(s'.nx % 5) * 4:=l2;have hm5:s'.nx % 5 < 5:=Nat.mod_lt _ (by decide)
  generalize s'.nx % 5=m at l1 l2 hm5 ⊢
  generalize acL wild m ⟨[],[],s'.tl⟩=r at l1 l2 ⊢
  obtain⟨k1,k2⟩:=kind_bd wild 2 r.st
  generalize acI wild 2 r.st=t at k1 k2 ⊢
  have hu:=upto_le t.st
  generalize uptoN t.st=n at hu ⊢
  obtain⟨s1,hs1⟩:∃ s1,s1=if 0 < n then acC wild t.st.tl else t.st.tl:=⟨_,rfl⟩
  have e1:s1.ns=t.st.ns:=by rw [hs1];split;(rw [acD];rfl);rfl
  have hul:tl (if 0 < n then ([([32],3,[117,112,116,111]),(acM wild t.st.tl,2,Go.Lib.itoa (n:Int))]:Pcs) else [])≤20:=by
   split
   ·have hi:=itoa_le ⟨n,by omega⟩;have g1:=gl t.st.tl;simp only at hi
    rw [acQ,acQ,tl_nil];simp only [List.length_cons,List.length_nil];omega
   ·rw [tl_nil];omega
  rw [← hs1];have b1:=(expr_bd wild 4).text s1;have b2:=(expr_bd wild 4).nodes s1;rw [lb4] at b1
  rw [cb4,e1] at b2
  generalize acG wild 4 s1=b at b1 b2 ⊢
  have g1:=gl b.st;have g2:=gl (acC wild b.st);have g3:=gl (acC wild (acC wild b.st))
  refine⟨?_,?_⟩
  ·simp only [acQ,tl_sgn,tl_append,tl_nil,List.length_cons,List.length_nil];omega
  ·show (abd.put _ _).ns.length≤_
   rw [put_len,acD,acD,acD];omega
 split
 ·unfold letItemG acP;simp only
  have b1:=(expr_bd wild 4).text s';have b2:=(expr_bd wild 4).nodes s';rw [lb4] at b1
  rw [cb4] at b2
  have o1:=on_le wild (acG wild 4 s').st (acG wild 4 s').pc
  refine⟨?_,?_⟩
  ·simp only [acQ,tl_sgn,List.length_cons,List.length_nil];omega
  ·show (abd.put _ _).ns.length≤_
   rw [put_len,acD];omega
 split
 ·unfold observeG acP;simp only
  have b1:=(expr_bd wild 4).text s';have b2:=(expr_bd wild 4).nodes s';rw [lb4] at b1
  rw [cb4] at b2
  have g1:=gl (acG wild 4 s').st
  refine⟨?_,?_⟩
  ·simp only [acQ,List.length_cons,List.length_nil];omega
  ·show (abd.put _ _).ns.length≤_
   rw [put_len,acD];omega
 split
 ·unfold retractG acP;have g1:=gl s'
  refine⟨?_,?_⟩
  ·simp only [acQ,tl_nil,List.length_cons,List.length_nil];omega
  ·show (abd.put _ _).ns.length≤_
   rw [put_len,acD];omega
 ·obtain⟨h1,h2⟩:=ask_bd wild (1+s'.nx % 8) (by omega) s'.tl;have h2:(askG wild (1+s'.nx % 8) s'.tl).st.ns.length≤s'.ns.length+800:=h2;exact⟨by omega,by omega⟩
theorem itemG_bd (wild:Bool)(s:abd):tl (itemG wild s).pc≤12000∧(itemG wild s).st.ns.length≤s.ns.length+900:=by
 obtain⟨h1,h2⟩:=item_bd wild s;unfold itemG;simp only
 refine⟨?_,by rw [acD];exact h2⟩
 have ht:(trailG s).length≤1:=by unfold trailG;split <;> simp
 have hg:=gap_le wild (itemG0 wild s).st;rw [tl_append,acQ,tl_nil,aaO];simp only [List.length_cons,List.length_nil];omega
end Mist
namespace Go.Proofs.YthepmkjggfijoaaGreatDoor
open Go.RowKit Mist
attribute [local go_sem] aj aH aS aB ak
def ab3 (wild:Bool)(d N:Nat):Prop:=∀ (g:Nat) (iv:Value) (w:World) (s:abd) (xs:List NV) (nv lv:Value),abH g wild iv w s xs nv lv→s.ns.length≤N →
 Calls Tryz.prog 116 #[.pointer (some ⟨g,0,none⟩),.int .i64 (d:Int)] w (GPost g wild iv w xs nv (acI wild d s))
theorem kd_int (wild:Bool)(d:Int)(g:Nat)(iv:Value)(w:World)(s:abd)(hr:s.nx % 4=0)  (xs:List NV)(nv lv:Value)(h:abH g wild iv w s xs nv lv)(hn:s.ns.length≤900000) :
  Calls Tryz.prog 116 #[.pointer (some ⟨g,0,none⟩),.int .i64 d] w (GPost g wild iv w xs nv (acP [([],3,[105,110,116])] s.tl ⟨30,[],0,[],0⟩)):=by
 have H0:=hid h;have M0:=hid (abJ.refl (g:=g) (w:=w) (xs:=xs) (nv:=nv));clear h;have hsn:s.tl.ns.length=s.ns.length:=rfl;have hm4:Int.tmod (s.nx:Int) 4=0:=by rw [Int.tmod_eq_emod_of_nonneg (by omega)];omega
 go_in
 go_wp2_with fail;refine (acU g wild _ _ (s) _ _ _ H0.out).mono ?_;rintro e w1⟨rfl,lv1,h,m⟩;have H1:=hid h;have M1:=hid (M0.out.mvp m);clear h m H0 M0;go_wp2_with fail;refine (plPut_any g wild _ _ ((s).tl) _ _ _ H1.out 30 [] 0 _ [] (cB.none_ _) (by first | omega|(simp only [acD,acR];omega))).mono ?_;rintro e w2⟨rfl,Qu,h,m⟩;have H2:=hid h;have M2:=hid (M1.out.putp (x:=(⟨30,[],0,[],0⟩,(.slice none 0 0))) m gw_none);clear h m;go_wp2_with fail;go_ret2
 refine⟨?_,_,_,_,H2.out,M2.out⟩
 show _=Ending.returned (.tuple #[.string (aM (aN [([],3,[105,110,116])])),.int .i64 ((s).tl).id])
 rw [itemText_one];rfl
theorem kd_bool (wild:Bool)(d:Int)(g:Nat)(iv:Value)(w:World)(s:abd)(hr:s.nx % 4=1)  (xs:List NV)(nv lv:Value)(h:abH g wild iv w s xs nv lv)(hn:s.ns.length≤900000) :
  Calls Tryz.prog 116 #[.pointer (some ⟨g,0,none⟩),.int .i64 d] w (GPost g wild iv w xs nv (acP [([],3,[98,111,111,108])] s.tl ⟨31,[],0,[],0⟩)):=by
 have H0:=hid h;have M0:=hid (abJ.refl (g:=g) (w:=w) (xs:=xs) (nv:=nv));clear h;have hsn:s.tl.ns.length=s.ns.length:=rfl;have hm4:Int.tmod (s.nx:Int) 4=1:=by rw [Int.tmod_eq_emod_of_nonneg (by omega)];omega
 go_in
 go_wp2_with fail;refine (acU g wild _ _ (s) _ _ _ H0.out).mono ?_;rintro e w1⟨rfl,lv1,h,m⟩;have H1:=hid h;have M1:=hid (M0.out.mvp m);clear h m H0 M0;go_wp2_with fail;refine (plPut_any g wild _ _ ((s).tl) _ _ _ H1.out 31 [] 0 _ [] (cB.none_ _) (by first | omega|(simp only [acD,acR];omega))).mono ?_;rintro e w2⟨rfl,Qu,h,m⟩;have H2:=hid h;have M2:=hid (M1.out.putp (x:=(⟨31,[],0,[],0⟩,(.slice none 0 0))) m gw_none);clear h m;go_wp2_with fail;go_ret2
 refine⟨?_,_,_,_,H2.out,M2.out⟩
 show _=Ending.returned (.tuple #[.string (aM (aN [([],3,[98,111,111,108])])),.int .i64 ((s).tl).id])
 rw [itemText_one];rfl
theorem kd_name (wild:Bool)(d:Int)(g:Nat)(iv:Value)(w:World)(s:abd)(hr:s.nx % 4=2)  (xs:List NV)(nv lv:Value)(h:abH g wild iv w s xs nv lv)(hn:s.ns.length≤900000) :
  Calls Tryz.prog 116 #[.pointer (some ⟨g,0,none⟩),.int .i64 d] w (GPost g wild iv w xs nv (acP [([],1,acH s.nx)] s.tl ⟨32,(acH s.nx),0,[],0⟩)):=by
 have H0:=hid h;have M0:=hid (abJ.refl (g:=g) (w:=w) (xs:=xs) (nv:=nv));clear h;have hsn:s.tl.ns.length=s.ns.length:=rfl;have hm4:Int.tmod (s.nx:Int) 4=2:=by rw [Int.tmod_eq_emod_of_nonneg (by omega)];omega
 go_in
 go_wp2_with fail;refine (acU g wild _ _ (s) _ _ _ H0.out).mono ?_;rintro e w1⟨rfl,lv1,h,m⟩;have H1:=hid h;have M1:=hid (M0.out.mvp m);clear h m H0 M0;go_wp2_with fail;refine (plWord_any (s.nx) _).mono ?_;rintro e w2⟨rfl,rfl⟩;go_wp2_with fail;refine (plWord_any (s.nx) _).mono ?_;rintro e w3⟨rfl,rfl⟩;go_wp2_with fail;refine (plPut_any g wild _ _ ((s).tl) _ _ _ H1.out 32 (acH s.nx) 0 _ [] (cB.none_ _) (by first | omega|(simp only [acD,acR];omega))).mono ?_;rintro e w4⟨rfl,yH,h,m⟩;have H4:=hid h;have M4:=hid (M1.out.putp (x:=(⟨32,(acH s.nx),0,[],0⟩,(.slice none 0 0))) m gw_none);clear h m;go_wp2_with fail;go_ret2
 refine⟨?_,_,_,_,H4.out,M4.out⟩
 show _=Ending.returned (.tuple #[.string (aM (aN [([],1,acH s.nx)])),.int .i64 ((s).tl).id])
 rw [itemText_one];rfl
theorem kd_name0 (wild:Bool)(d:Int)(g:Nat)(iv:Value)(w:World)(s:abd)(hr:s.nx % 4=3)(hd:d=0)  (xs:List NV)(nv lv:Value)(h:abH g wild iv w s xs nv lv)(hn:s.ns.length≤900000) :
  Calls Tryz.prog 116 #[.pointer (some ⟨g,0,none⟩),.int .i64 d] w (GPost g wild iv w xs nv (acP [([],1,acH s.nx)] s.tl ⟨32,(acH s.nx),0,[],0⟩)):=by
 have H0:=hid h;have M0:=hid (abJ.refl (g:=g) (w:=w) (xs:=xs) (nv:=nv));clear h;have hsn:s.tl.ns.length=s.ns.length:=rfl;have hm4:Int.tmod (s.nx:Int) 4=3:=by rw [Int.tmod_eq_emod_of_nonneg (by omega)];omega
 subst hd;go_in
 go_wp2_with fail;refine (acU g wild _ _ (s) _ _ _ H0.out).mono ?_;rintro e w1⟨rfl,lv1,h,m⟩;have H1:=hid h;have M1:=hid (M0.out.mvp m);clear h m H0 M0;go_wp2_with fail;refine (plWord_any (s.nx) _).mono ?_;rintro e w2⟨rfl,rfl⟩;go_wp2_with fail;refine (plWord_any (s.nx) _).mono ?_;rintro e w3⟨rfl,rfl⟩;go_wp2_with fail;refine (plPut_any g wild _ _ ((s).tl) _ _ _ H1.out 32 (acH s.nx) 0 _ [] (cB.none_ _) (by first | omega|(simp only [acD,acR];omega))).mono ?_;rintro e w4⟨rfl,yH,h,m⟩;have H4:=hid h;have M4:=hid (M1.out.putp (x:=(⟨32,(acH s.nx),0,[],0⟩,(.slice none 0 0))) m gw_none);clear h m;go_wp2_with fail;go_ret2
 refine⟨?_,_,_,_,H4.out,M4.out⟩
 show _=Ending.returned (.tuple #[.string (aM (aN [([],1,acH s.nx)])),.int .i64 ((s).tl).id])
 rw [itemText_one];rfl
theorem kd_list (wild:Bool)(d N:Nat)(hN:N≤900000)(hd2:d≤2)(hK:ab3 wild d (N+10))(g:Nat)(iv:Value)(w:World)(s:abd)(xs:List NV)(nv lv:Value)(h:abH g wild iv w s xs nv lv)(hn:s.ns.length≤N)(hr:s.nx % 4=3) :
  Calls Tryz.prog 116 #[.pointer (some ⟨g,0,none⟩),.int .i64 ((d:Int)+1)] w (GPost g wild iv w xs nv (acI wild (d+1) s)):=by
 have H0:=hid h;have M0:=hid (abJ.refl (g:=g) (w:=w) (xs:=xs) (nv:=nv));clear h;have hsn:s.tl.ns.length=s.ns.length:=rfl;have hm4:Int.tmod (s.nx:Int) 4=3:=by rw [Int.tmod_eq_emod_of_nonneg (by omega)];omega
 have zd0:¬ ((d:Int)+1≤0):=by omega
 have zd:IntKind.i64.wrap ((d:Int)+1 - 1)=(d:Int):=by rw [Int.add_sub_cancel];exact IntWalk.i64_in _ ⟨by omega,by omega⟩
 have HKC:=hid hK;have HKB:=hid (show ∀ z,tl (acI wild d z).pc≤100∧(acI wild d z).st.ns.length≤z.ns.length+(d+1) from fun z=>⟨Nat.le_trans (kind_bd wild d z).1 (by omega),(kind_bd wild d z).2⟩);clear hK;go_in
 go_wp2_with fail;refine (acU g wild _ _ (s) _ _ _ H0.out).mono ?_;rintro e w1⟨rfl,lv1,h,m⟩;have H1:=hid h;have M1:=hid (M0.out.mvp m);clear h m H0 M0;go_wp2_with fail;refine (HKC.out g _ _ (s.tl) _ _ _ H1.out (by first | omega|(simp only [acD];omega))).mono ?_;rintro e w2⟨rfl,xs2,Qu,lv2,h,m⟩;have H2:=hid h;have M2:=hid (M1.out.trans m);clear h m H1 M1;obtain⟨bt2,bn2⟩:=HKB.out (s.tl);obtain⟨a2,ha2⟩:∃ a,a=acI wild d (s.tl):=⟨_,rfl⟩;rw [← ha2] at H2 bt2 bn2 ⊢
 obtain⟨T2,hT2⟩:∃ T,T=aN a2.pc:=⟨_,rfl⟩;have tl2:T2.length≤100:=by rw [hT2];exact bt2
 rw [← hT2];have HA2:=hid ha2;have HT2:=hid hT2;clear ha2 hT2 bt2
 (try simp only [acD] at bn2)
 obtain⟨q,hq⟩:∃ q,q=a2.st.nx % 6:=⟨_,rfl⟩;have zq:Int.tmod (a2.st.nx:Int) 6=(q:Int):=by rw [Int.tmod_eq_emod_of_nonneg (by omega),hq];omega
 have HQ:=hid hq;have hq6:q≤5:=by omega
 clear hq;have zq1:IntKind.i64.wrap (1+(q:Int))=((1+q:Nat):Int):=by rw [IntWalk.i64_in _ (by omega)];omega
 have hit:=itoa_le ⟨1+q,by omega⟩;simp only at hit
 go_wp2_with fail;refine (acU g wild _ _ (a2.st) _ _ _ H2.out).mono ?_;rintro e w3⟨rfl,lv3,h,m⟩;have H3:=hid h;have M3:=hid (M2.out.mvp m);clear h m H2 M2;have hsn2:a2.st.tl.ns.length=a2.st.ns.length:=rfl;go_wp2_with fail;refine (plGap_any g wild _ _ (a2.st.tl) _ _ _ H3.out).mono ?_;rintro e w4⟨rfl,lv4,h,m⟩;have H4:=hid h;have M4:=hid (M3.out.mvp m);clear h m H3 M3;have gl4:=gapG_len wild (a2.st.tl);obtain⟨G4,hG4⟩:∃ G,G=acM wild (a2.st.tl):=⟨_,rfl⟩;rw [← hG4] at gl4 ⊢
 have Jf:=hid hG4;clear hG4;go_wp2_with fail;refine (plItoa_any (((1+q:Nat):Int)) (by omega) (by omega) g wild _ _ (acC wild (a2.st.tl)) _ _ _ H4.out).mono ?_;rintro e w5⟨rfl,hb5⟩;have H5:=hid (H4.out.below hb5);have M5:=hid (M4.out.aL hb5);clear hb5 H4 M4;obtain⟨U,hU⟩:∃ U,U=Go.Lib.itoa ((1+q:Nat):Int):=⟨_,rfl⟩;rw [← hU] at hit ⊢
 have HU:=hid hU;clear hU;have cq0:¬ 9223372036854775807 < 1+T2.length:=by omega
 have cq1:¬ 9223372036854775807 < 1+T2.length+G4.length:=by omega
 have cq2:¬ 9223372036854775807 < 1+T2.length+G4.length+1:=by omega
 have cq3:¬ 9223372036854775807 < 1+T2.length+G4.length+1+U.length:=by omega
 have cq4:¬ 9223372036854775807 < 1+T2.length+G4.length+1+U.length+1:=by omega
 have abR:=hid (Mx w5 [a2.ix]);have HK:=hid (H5.out.alloc (.cells (intCells [a2.ix]).toArray 3));have abS:=hid (M5.out.dD (o:=.cells (intCells [a2.ix]).toArray 3));have hms:=M5.out.size;clear H5 M5;go_wp2_with fail;obtain⟨Y,hY⟩:∃ Y:Bs,Y=[91] ++ T2 ++ G4 ++ [59] ++ U ++ [93]:=⟨_,rfl⟩;rw [show (⟨#[91]⟩:ByteArray) ++ aM (T2) ++ aM (G4) ++ (⟨#[59]⟩:ByteArray) ++ aM (U) ++ (⟨#[93]⟩:ByteArray)=aM Y from by rw [hY] <;> (simp only [← ak];rfl)];have abT:Y.length≤10000000:=by rw [hY];simp only [aaO,List.length_cons,List.length_nil];omega
 have HY:=hid hY;clear hY;refine (plPut_any g wild _ _ (acC wild (a2.st.tl)) _ _ _ HK.out 33 [] ((1+q:Nat):Int) _ [a2.ix] abR.out (by first | omega|(simp only [acD,acR];omega))).mono ?_;rintro e w6⟨rfl,XB,h,m⟩;have H6:=hid h;have M6:=hid (abS.out.putp (x:=(⟨33,[],((1+q:Nat):Int),[a2.ix],0⟩,(.slice (some ⟨w5.heap.size,0,none⟩) 1 1))) m (gw_at hms));clear h m;go_wp2_with fail;go_ret2
 have HF:=hid (show acI wild (d+1) s=acP (sgn [91] :: (a2.pc ++ [(G4,4,[59]),([],2,U),sgn [93]])) (acC wild (a2.st.tl)) ⟨33,[],((1+q:Nat):Int),[a2.ix],0⟩ from by
  rw [acI,if_neg (by omega),if_neg (by omega),if_neg (by omega)];simp only
  rw [← HA2.out,← Jf.out,← HQ.out,← HU.out])
 rw [HF.out]
 refine⟨?_,_,_,_,H6.out,M6.out⟩
 show _=Ending.returned (.tuple #[.string (aM (aN (sgn [91] :: (a2.pc ++ [(G4,4,[59]),([],2,U),sgn [93]])))),.int .i64 (acC wild (a2.st.tl)).id])
 have HI:=(show aN (sgn [91] :: (a2.pc ++ [(G4,4,[59]),([],2,U),sgn [93]]))=Y from by
  simp only [aN,qZ,sgn];rw [HY.out,HT2.out];simp only [List.nil_append,List.append_nil,List.append_assoc,List.cons_append])
 rw [HI];rfl
theorem kind_zero (wild:Bool)(N:Nat)(hN:N≤900000):ab3 wild 0 N:=by
 intro g iv w s xs nv lv h hn;by_cases h0:s.nx % 4=0
 ·rw [show acI wild 0 s=acP [([],3,[105,110,116])] s.tl ⟨30,[],0,[],0⟩ by rw [acI,if_pos h0]];exact kd_int wild _ g iv w s h0 xs nv lv h (by omega)
 by_cases h1:s.nx % 4=1
 ·rw [show acI wild 0 s=acP [([],3,[98,111,111,108])] s.tl ⟨31,[],0,[],0⟩ by rw [acI,if_neg h0,if_pos h1]];exact kd_bool wild _ g iv w s h1 xs nv lv h (by omega)
 rw [show acI wild 0 s=acP [([],1,acH s.nx)] s.tl ⟨32,acH s.nx,0,[],0⟩ by rw [acI,if_neg h0,if_neg h1]];by_cases h2:s.nx % 4=2
 ·exact kd_name wild _ g iv w s h2 xs nv lv h (by omega)
 ·exact kd_name0 wild _ g iv w s (by omega) rfl xs nv lv h (by omega)
theorem kind_next (wild:Bool)(d N:Nat)(hN:N≤900000)(hd2:d≤2)(hK:ab3 wild d (N+10)):ab3 wild (d+1) N:=by
 intro g iv w s xs nv lv h hn;by_cases h0:s.nx % 4=0
 ·rw [show acI wild (d+1) s=acP [([],3,[105,110,116])] s.tl ⟨30,[],0,[],0⟩ by rw [acI,if_pos h0]];exact kd_int wild _ g iv w s h0 xs nv lv h (by omega)
 by_cases h1:s.nx % 4=1
 ·rw [show acI wild (d+1) s=acP [([],3,[98,111,111,108])] s.tl ⟨31,[],0,[],0⟩ by rw [acI,if_neg h0,if_pos h1]];exact kd_bool wild _ g iv w s h1 xs nv lv h (by omega)
 by_cases h2:s.nx % 4=2
 ·rw [show acI wild (d+1) s=acP [([],1,acH s.nx)] s.tl ⟨32,acH s.nx,0,[],0⟩ by rw [acI,if_neg h0,if_neg h1,if_pos h2]];exact kd_name wild _ g iv w s h2 xs nv lv h (by omega)
 ·exact kd_list wild d N hN hd2 hK g iv w s xs nv lv h hn (by omega)
theorem vo (wild:Bool):ab3 wild 2 800000:=kind_next wild 1 _ (by omega) (by omega) (kind_next wild 0 _ (by omega) (by omega) (kind_zero wild _ (by omega)))
end Go.Proofs.YthepmkjggfijoaaGreatDoor
