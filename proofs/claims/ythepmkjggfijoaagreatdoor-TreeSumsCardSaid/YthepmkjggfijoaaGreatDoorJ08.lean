/-
  A part of the proof.
-/
import Derived.Test.YthepmkjggfijoaaGreatDoorSA
import Derived.Test.YthepmkjggfijoaaGreatDoorJ06
import Derived.Test.YthepmkjggfijoaaGreatDoorJ07
set_option linter.all false
set_option maxRecDepth 100000
set_option maxHeartbeats 4000000
open Go.Lib (hid)
namespace Go.Proofs.YthepmkjggfijoaaGreatDoor
open Go.RowKit Mist
attribute [local go_sem] aj aH aS aB ak
theorem apart_hi {v u:Value}{n:Nat}(h1:∀ b,u.ownBlock=some b→b < n)(h2:∀ b,v.ownBlock=some b→n≤b):u.ownBlock=none∨u.ownBlock ≠ v.ownBlock:=by
 rcases h9:u.ownBlock with _ | b
 ·exact .inl rfl
 ·right
  intro e
  have:=h1 b h9
  have:=h2 b e.symm
  omega
section
variable {g:Nat} {wild:Bool} {iv lv:Value} {w0 w w1:World} {s:abd} {xs xs1:List NV} {nv gW:Value} {v u:Value} {ks js:List Int}
theorem abK.farP (h:abK w0 w xs v ks){b:Nat}{cs:Array Value}(hB:aC w b 81 cs)(i:Nat)(u:Value):abK w0 (w.setCell ⟨b,i,none⟩ u) xs v ks:=⟨ownsRow_setCell_other h.row (aT h.row hB (by decide)) u,h.lo,h.far⟩
theorem abK.base (h:abK w1 w xs v ks)(h0:w0.heap.size≤w1.heap.size):abK w0 w xs v ks:=⟨h.row,fun b hb=>Nat.le_trans h0 (h.lo b hb),h.far⟩
theorem abK.keep (h:abK w0 w xs v ks)(hg:w.grownBy w1 u.ownBlock)(hne:v.ownBlock=none∨v.ownBlock ≠ u.ownBlock):abK w0 w1 xs v ks:=⟨World.ownsRow.kept h.row hg hne,h.lo,h.far⟩
theorem abK.grows (h:abK w0 w xs v ks){gg cap:Nat}(q:abH g wild iv w s xs nv lv)(hown:w1.ownsRow 0 3 1 (.slice (some ⟨gg,0,none⟩) (ks.length+js.length) cap) (ks.length+js.length) (intCells ks ++ intCells js))(hat:v.ownBlock=some gg∨gg=w.heap.size)(h0:w0.heap.size≤w.heap.size):abK w0 w1 xs (.slice (some ⟨gg,0,none⟩) (ks.length+js.length) cap) (ks ++ js):=by
 refine⟨?_,fun b hb=>?_,fun x hx=>?_⟩
 ·unfold cB;rw [aaO,show intCells (ks ++ js)=intCells ks ++ intCells js by unfold intCells;rw [List.map_append]];exact hown
 ·have hb:gg=b:=by simpa [Value.ownBlock] using hb
  subst hb;rcases hat with e | e
  ·exact h.lo _ e
  ·omega
 ·rcases hat with e | e
  ·have:=h.far x hx
   rw [e] at this
   simpa [Value.ownBlock] using this
  ·rcases h9:x.2.ownBlock with _ | b
   ·exact .inl rfl
   ·right
    intro e2;have h1:=cB.lt (q.kids x hx) b h9;simp [Value.ownBlock] at e2
    omega
theorem abH.items (h:abH g wild iv w s xs nv lv)(AY:Value):abH g wild AY (w.setCell ⟨g,2,none⟩ AY) s xs nv lv :=
 have m:Mv g nv.ownBlock w nv.ownBlock (w.setCell ⟨g,2,none⟩ AY):=Mv.d_ h.blk 2 AY
 ⟨(by have:=h.blk.d_ 2 AY;simpa using this),h.seed.below (h.low m) (aaK h.lt),ownsRow_setCell_other h.own (aT h.own h.blk (by decide)) _,fun x hx=>h.l6 m (h.kids x hx),h.ns,h.pow.on (h.low m)⟩
end
def ItemPost (g:Nat)(wild:Bool)(w0 w:World)(its:List Int)(r:abb)(e:Ending)(w':World):Prop :=
 e=.returned (.string (aM (aN r.pc)))∧∃ AY xs' eO lv',abH g wild AY w' r.st xs' eO lv'∧abK w0 w' xs' AY (its ++ [r.ix])∧Below g w w'
theorem x4_is (wild:Bool):aci wild (acG wild 4) 700000 (.int .i64 4) :=
 ⟨fun g iv w s xs nv lv h hn=>expr_four wild g iv w s xs nv lv h (by omega),bd_more (expr_bd wild 4) (by decide) (by decide),fun s=>expr_good wild 4 s⟩
theorem x3_is (wild:Bool):aci wild (acG wild 3) 750000 (.int .i64 3) :=
 ⟨fun g iv w s xs nv lv h hn=>expr_three wild g iv w s xs nv lv h (by omega),bd_more (expr_bd wild 3) (by decide) (by decide),fun s=>expr_good wild 3 s⟩
theorem l3_is (wild:Bool):LsC wild (acG wild 3) 700000 (.int .i64 4):=fun m hm g iv w s xs nv lv h hn =>
 plList_any wild 3 750000 (by omega) (expr_three wild) (by decide) (by decide) m hm g iv w s xs nv lv h (by omega)
section
variable {g:Nat} {wild:Bool} {iv nv0 nv lv:Value} {w0 w:World} {s:abd} {xs0 xs:List NV} (H:Hid (abH g wild iv w s xs nv lv)) (M:Hid (abJ g w0 xs0 nv0 w xs nv))
include H M
theorem kdH (hn:s.ns.length≤800000):Calls Tryz.prog 116 #[.pointer (some ⟨g,0,none⟩),.int .i64 2] w fun e w'=>∃ a T xs' eO lv',e=.returned (.tuple #[.string (aM T),.int .i64 a.ix])∧Hid (acI wild 2 s=a)∧Hid (aN a.pc=T)∧Hid (∀ u,aN (Pcs.on u a.pc)=u ++ T)∧T.length≤100∧a.st.ns.length≤s.ns.length+3∧Hid (abH g wild iv w' a.st xs' eO lv')∧Hid (abJ g w0 xs0 nv0 w' xs' eO)∧Hid (Kp w xs w' xs'):=by
 refine (vo wild g iv _ s _ _ _ H.out hn).mono ?_;rintro e w' ⟨rfl,xs',eO,lv',h,m⟩;obtain⟨b1,b2⟩:=kind_bd wild 2 s;exact⟨_,_,xs',eO,lv',rfl,hid rfl,hid rfl,hid (on_text (typ_good wild 2 s)),Nat.le_trans b1 (by omega),b2,hid h,hid (M.out.trans m),hid fun w1 v ks L=>L.mw H.out m⟩
theorem nbH {n:Int}(h0:-140 < n)(h1:n < 140)(hn:s.ns.length≤900000):Calls Tryz.prog 112 #[.pointer (some ⟨g,0,none⟩),.int .i64 n] w fun e w'=>∃ a T xs' eO lv',e=.returned (.tuple #[.string (aM T),.int .i64 a.ix])∧Hid (acT n s=a)∧Hid (aN a.pc=T)∧Hid (∀ u,aN (Pcs.on u a.pc)=u ++ T)∧T.length≤100∧a.st.ns.length≤s.ns.length+1∧Hid (abH g wild iv w' a.st xs' eO lv')∧Hid (abJ g w0 xs0 nv0 w' xs' eO)∧Hid (Kp w xs w' xs'):=by
 refine (plNumber_any wild n (by omega) (by omega) g iv _ s _ _ _ H.out hn).mono ?_;rintro e w' ⟨rfl,xs',eO,lv',h,m⟩;obtain⟨b1,b2⟩:=num_bd n h0 h1 s;exact⟨_,_,xs',eO,lv',rfl,hid rfl,hid rfl,hid (on_ne (num_ne n)),Nat.le_trans b1 (by omega),Nat.le_of_eq b2,hid h,hid (M.out.trans m),hid fun w1 v ks L=>L.mw H.out m⟩
theorem prH {m:Nat}(hm:m≤6)(hn:s.ns.length≤700000):Calls Tryz.prog 115 #[.pointer (some ⟨g,0,none⟩),.int .i64 (m:Int)] w fun e w'=>∃ r T A c xs' eO lv',e=.returned (.tuple #[.string (aM T),.slice A r.ix.length c])∧Hid (acL wild m ⟨[],[],s⟩=r)∧Hid (aN r.pc=T)∧T.length≤500∧r.st.ns.length≤s.ns.length+30∧r.ix.length≤6∧Hid (abK w0 w' xs' (.slice A r.ix.length c) r.ix)∧Hid (abH g wild iv w' r.st xs' eO lv')∧Hid (abJ g w0 xs0 nv0 w' xs' eO)∧Hid (Kp w xs w' xs'):=by
 refine (plParams_any wild 700000 (by omega) m hm g iv _ s _ _ _ H.out hn).mono ?_;rintro e w' ⟨A,c,xs',eO,lv',rfl,l,h,k⟩;obtain⟨b1,b2,b3⟩:=params_bd wild m ⟨[],[],s⟩;rw [tl_nil] at b1
 have b2:(acL wild m ⟨[],[],s⟩).st.ns.length≤s.ns.length+m * 4:=b2;have b3:(acL wild m ⟨[],[],s⟩).ix.length=0+m:=b3;exact⟨_,_,A,c,xs',eO,lv',rfl,hid rfl,hid rfl,Nat.le_trans b1 (by omega),by omega,by omega,hid ⟨l.row,fun b hb=>Nat.le_trans M.out.size (l.lo b hb),l.far⟩,hid h,hid (M.out.trans k),hid fun w1 v ks L=>L.mw H.out k⟩
theorem itB {Ai:Option Addr}{ci gg cap:Nat}{id:Int}{its:List Int}{wb Tx:World}(he:iv=.slice Ai its.length ci)(B:Hid (∀ (row:Option Nat) (w':World),Mv g nv0.ownBlock w0 row w'→Below g w0 w'))(L:Hid (abK wb w xs (.slice Ai its.length ci) its))(hw:wb.heap.size≤w0.heap.size)(hg:g < wb.heap.size)
  (hown:Tx.ownsRow 0 3 1 (.slice (some ⟨gg,0,none⟩) (its.length+1) cap) (its.length+1) (intCells its ++ [.int .i64 id])) (hgrow:(w.alloc (.cells #[.int .i64 id] 3)).grownBy Tx (Value.slice Ai its.length ci).ownBlock) (hat:(Value.slice Ai its.length ci).ownBlock=some gg∨gg=(w.alloc (.cells #[.int .i64 id] 3)).heap.size) :
  aC Tx g 81 #[lv,nv,.slice Ai its.length ci,.bool wild]∧Hid (abH g wild (.slice (some ⟨gg,0,none⟩) (its.length+1) cap) (Tx.setCell ⟨g,2,none⟩ (.slice (some ⟨gg,0,none⟩) (its.length+1) cap)) s xs nv lv)∧Hid (abK wb (Tx.setCell ⟨g,2,none⟩ (.slice (some ⟨gg,0,none⟩) (its.length+1) cap)) xs (.slice (some ⟨gg,0,none⟩) (its.length+1) cap) (its ++ [id]))∧Hid (Below g w0 (Tx.setCell ⟨g,2,none⟩ (.slice (some ⟨gg,0,none⟩) (its.length+1) cap))):=by
 subst he;have hsz:=M.out.size;have vL:=B.out _ _ M.out.mv;have LA:=L.out.alloc (.cells #[.int .i64 id] 3);have HA:=H.out.alloc (.cells #[.int .i64 id] 3);have HBA:=vL.alloc (by have:=vL.size;have:=H.out.lt;omega) (.cells #[.int .i64 id] 3);have hlo:=fun b hb=>aaK (aaW hg (LA.lo b hb))
 have L3:=LA.grow HA hown hat (Nat.le_trans hw (by simp;omega));have H3:=HA.grow LA hgrow hlo;have B3:=HBA.grown hgrow (aaK HA.lt) hlo;exact⟨H3.blk,hid (H3.items _),hid (L3.farP H3.blk 2 _),hid (dx B3 (aaJ _))⟩
end
theorem itE {g:Nat}{wild:Bool}{w0 w w':World}{s:abd}{its:List Int}{a:abb}{Y G:Bs}{t:ByteArray}{iv nv lv:Value}{xs:List NV}{id:Int}(ha:itemG0 wild s=a)(hY:aN a.pc ++ trailG s=Y)(hG:acM wild a.st=G)(hi:a.ix=id)(ht:t=aM (Y ++ G ++ [59]))(h:abH g wild iv w' (acC wild a.st) xs nv lv)(l:abK w0 w' xs iv (its ++ [id]))(b:Below g w w'):ItemPost g wild w0 w its (itemG wild s) (.returned (.string t)) w':=by
 subst ha hG hi
 refine⟨?_,iv,xs,nv,lv,h,l,b⟩
 rw [ht,← hY]
 show _=Ending.returned (.string (aM (aN ((itemG0 wild s).pc ++ [(trailG s ++ acM wild (itemG0 wild s).st,4,[59])]))))
 rw [qZ];simp only [aN];simp only [List.append_nil,List.append_assoc]
theorem run_queries (r:Nat)(h:r < 9)(w:World):Sem.run Tryz.prog (Instr.index 164 (.agg #[.string ⟨#[]⟩,.string ⟨#[109,117,115,116]⟩,.string ⟨#[109,97,121]⟩,.string ⟨#[99,111,117,110,116]⟩,.string ⟨#[98,111,117,110,100,115]⟩,.string ⟨#[118,97,108,117,101,115]⟩,.string ⟨#[119,104,121]⟩,.string ⟨#[98,108,97,109,101]⟩,.string ⟨#[108,111,111,107]⟩]) (.int .i64 r)) w=.ok (.string (aM (sg queriesG r))) w:=by
 obtain rfl | rfl | rfl | rfl | rfl | rfl | rfl | rfl | rfl:r=0∨r=1∨r=2∨r=3∨r=4∨r=5∨r=6∨r=7∨r=8:=by omega
 all_goals kernel_rfl
theorem pi_letI {wild:Bool}{g:Nat}{iv:Value}{w0 w:World}{s:abd}{xs:List NV}{nv lv:Value}{its:List Int}(H:Hid (abH g wild iv w s xs nv lv))(LI:Hid (abK w0 w xs iv its))(hw:w0.heap.size≤w.heap.size)(hg:g < w0.heap.size)(hil:its.length≤1000)(hn:s.ns.length≤100000)(hb:s.nx % 7=3) :
  Calls Tryz.prog 72 #[.pointer (some ⟨g,0,none⟩)] w (ItemPost g wild w0 w its (itemG wild s)):=by
 obtain⟨Ai,ci,hiv⟩:=dh LI.out.row;subst hiv;obtain⟨j0,hj0,hy0,hy1,hy2⟩:=info_parts gN;have Ql:=hid fun (row:Option Nat) (w':World) (m:Mv g nv.ownBlock w row w')=>H.out.low m
 have M:=hid (abJ.refl (g:=g) (w:=w) (xs:=xs) (nv:=nv));have HLT:=hid (cB.lt LI.out.row);obtain⟨E,HEE⟩:∃ E,Hid (acG wild 4=E):=⟨_,hid rfl⟩;have X:=hid (x4_is wild);rw [HEE.out] at X
 have hm7:Int.tmod (s.nx:Int) 7=3:=by rw [Int.tmod_eq_emod_of_nonneg (by omega)];omega
 have HB:=hid (show itemG0 wild s=letItemG wild (acH s.tl.nx) s.tl.tl by unfold itemG0;simp only;rw [if_neg (by omega),if_neg (by omega),if_neg (by omega),if_pos hb]);have HTR:=hid (show trailG s=[] from if_neg (fun h=>by omega));go_in
 go_wp2_with fail;refine (nxH H M).mono ?_;clear H M;rintro e w1⟨lv1,rfl,q1,H,M,R⟩
 replace LI:=kp R LI
 clear R;go_wp2_with fail;refine (nxH H M).mono ?_;clear H M;rintro e w2⟨lv2,rfl,q2,H,M,R⟩
 replace LI:=kp R LI
 clear R;go_wp2_with fail;refine (wdH (s.tl.nx) _).mono ?_;rintro e w3⟨x,rfl,Hx,lx,rfl⟩;rw [Hx.out] at HB
 clear hb;go_wp2_with fail;refine (exH H M X (by omega)).mono ?_;clear H M;rintro e w4⟨a4,T4,xs4,yH,lv4,rfl,fq,Ji,acn,tl4,bn4,H,M,R⟩
 replace LI:=kp R LI
 clear R;have cp0_0:¬ 9223372036854775807 < 4+x.length:=by omega
 have cp0_1:¬ 9223372036854775807 < 4+x.length+1:=by omega
 go_wp2_with fail;refine (gpH H M).mono ?_;clear H M;rintro e w5⟨abW,lv5,rfl,HG5,gl5,q5,H,M,R⟩
 replace LI:=kp R LI
 clear R;clear cp0_0 cp0_1;have cq0:¬ 9223372036854775807 < 4+x.length:=by omega
 have cq1:¬ 9223372036854775807 < 4+x.length+1:=by omega
 have cq2:¬ 9223372036854775807 < 4+x.length+1+abW.length:=by omega
 have cq3:¬ 9223372036854775807 < 4+x.length+1+abW.length+T4.length:=by omega
 go_wp2_with fail;obtain⟨Y,HY⟩:∃ Y:Bs,Hid ([108,101,116,32] ++ x ++ [61] ++ abW ++ T4=Y):=⟨_,hid rfl⟩;rw [show (⟨#[108,101,116,32]⟩:ByteArray) ++ aM (x) ++ (⟨#[61]⟩:ByteArray) ++ aM (abW) ++ aM (T4)=aM Y from by rw [← HY.out] <;> (simp only [← ak];rfl)];have abT:Y.length≤10000000:=by rw [← HY.out];simp only [aaO,List.length_cons,List.length_nil];omega
 refine (ptH H M [a4.ix] (by simp) (by omega)).mono ?_;clear H M;rintro e w6⟨xs6,XB,rfl,H,M,R⟩
 replace LI:=kp R LI
 clear R
 have HF:=hid (show letItemG wild x s.tl.tl=acP (([],3,[108,101,116]) :: ([32],1,x) :: sgn [61] :: Pcs.on abW a4.pc) (acC wild (a4.st)) ⟨43,x,0,[a4.ix],0⟩ from by
  unfold letItemG
  try simp only
  rw [HEE.out,fq.out,HG5.out] <;> rfl)
 have HIX:aN (([],3,[108,101,116]) :: ([32],1,x) :: sgn [61] :: Pcs.on abW a4.pc) ++ trailG s=Y:=by
  rw [HTR.out,List.append_nil];simp only [aN,qZ,sgn];rw [acn.out,← HY.out] <;> simp only [List.nil_append,List.append_nil,List.append_assoc,List.cons_append]
 have HIY:=hid HIX;clear HIX;obtain⟨id,qP⟩:∃ id,Hid (abd.id (acC wild (a4.st))=id):=⟨_,hid rfl⟩;rw [qP.out];have hrow:=(LI.out.alloc (.cells #[.int .i64 id] 3)).row;have HRW:=hid hrow;have cI:=H.out.blk.cell 2;clear hrow;go_wp2_with (at_builtin;go_loud (refine wpList_append_lies _ rfl (.tmp 234) (.tmp 236) 24 rfl 0 3 j0 (.int .i64 0) 1 8 Tryz.underlying24 hj0 hy0 hy1 hy2 rfl (by decide) _ its.length (intCells its) rfl HRW.out ⟨w6.heap.size,0,none⟩ 1 1 [.int .i64 id] rfl rfl (cell_one_new _ _ _) (by intro u hu;simp at hu;subst hu;rfl) (by omega) (by simp only [maxLen];omega) (by omega) (aaL _) _ rfl ?_);intro gg cap Tx hown hgrow hat hlt;obtain⟨HK,H9,acv,B9⟩:=itB H M rfl Ql LI hw hg hown hgrow hat;have c14:=HK.cell 2;have f14:=HK.frozen 2;clear hown hgrow hat HK)
 refine (plGap_any g wild _ _ ((acC wild (a4.st)).put ⟨43,x,0,[a4.ix],0⟩) _ _ _ H9.out).mono ?_;rintro e w99⟨rfl,lv99,h,m⟩;have H5:=hid h;have L5:=hid (acv.out.mv H9.out m);have B5:=hid (B9.out.trans (H9.out.low m));clear h m;have gl9:=gapG_len wild ((acC wild (a4.st)).put ⟨43,x,0,[a4.ix],0⟩);obtain⟨G,HG⟩:∃ G,Hid (acM wild ((acC wild (a4.st)).put ⟨43,x,0,[a4.ix],0⟩)=G):=⟨_,hid rfl⟩;rw [HG.out] at gl9 ⊢
 have cz0:¬ 9223372036854775807 < Y.length+G.length:=by omega
 have cz1:¬ 9223372036854775807 < Y.length+G.length+1:=by omega
 go_wp2_with fail;go_ret;exact itE (a:=acP (([],3,[108,101,116]) :: ([32],1,x) :: sgn [61] :: Pcs.on abW a4.pc) (acC wild (a4.st)) ⟨43,x,0,[a4.ix],0⟩) (HB.out.trans HF.out) HIY.out HG.out qP.out (by first|(rw [← ak];rfl)|(rw [← ak,← ak];rfl)) H5.out L5.out B5.out
theorem pi_observe {wild:Bool}{g:Nat}{iv:Value}{w0 w:World}{s:abd}{xs:List NV}{nv lv:Value}{its:List Int}(H:Hid (abH g wild iv w s xs nv lv))(LI:Hid (abK w0 w xs iv its))(hw:w0.heap.size≤w.heap.size)(hg:g < w0.heap.size)(hil:its.length≤1000)(hn:s.ns.length≤100000)(hb:s.nx % 7=4) :
  Calls Tryz.prog 72 #[.pointer (some ⟨g,0,none⟩)] w (ItemPost g wild w0 w its (itemG wild s)):=by
 obtain⟨Ai,ci,hiv⟩:=dh LI.out.row;subst hiv;obtain⟨j0,hj0,hy0,hy1,hy2⟩:=info_parts gN;have Ql:=hid fun (row:Option Nat) (w':World) (m:Mv g nv.ownBlock w row w')=>H.out.low m
 have M:=hid (abJ.refl (g:=g) (w:=w) (xs:=xs) (nv:=nv));have HLT:=hid (cB.lt LI.out.row);obtain⟨E,HEE⟩:∃ E,Hid (acG wild 4=E):=⟨_,hid rfl⟩;have X:=hid (x4_is wild);rw [HEE.out] at X
 have hm7:Int.tmod (s.nx:Int) 7=4:=by rw [Int.tmod_eq_emod_of_nonneg (by omega)];omega
 have HB:=hid (show itemG0 wild s=observeG wild (acH s.tl.nx) s.tl.tl by unfold itemG0;simp only;rw [if_neg (by omega),if_neg (by omega),if_neg (by omega),if_neg (by omega),if_pos hb]);have HTR:=hid (show trailG s=[] from if_neg (fun h=>by omega));go_in
 go_wp2_with fail;refine (nxH H M).mono ?_;clear H M;rintro e w1⟨lv1,rfl,q1,H,M,R⟩
 replace LI:=kp R LI
 clear R;go_wp2_with fail;refine (nxH H M).mono ?_;clear H M;rintro e w2⟨lv2,rfl,q2,H,M,R⟩
 replace LI:=kp R LI
 clear R;go_wp2_with fail;refine (wdH (s.tl.nx) _).mono ?_;rintro e w3⟨x,rfl,Hx,lx,rfl⟩;rw [Hx.out] at HB
 clear hb;go_wp2_with fail;refine (exH H M X (by omega)).mono ?_;clear H M;rintro e w4⟨a4,T4,xs4,yH,lv4,rfl,fq,Ji,acn,tl4,bn4,H,M,R⟩
 replace LI:=kp R LI
 clear R;have cp0_0:¬ 9223372036854775807 < 8+x.length:=by omega
 go_wp2_with fail;refine (gpH H M).mono ?_;clear H M;rintro e w5⟨abW,lv5,rfl,HG5,gl5,q5,H,M,R⟩
 replace LI:=kp R LI
 clear R;clear cp0_0;have cq0:¬ 9223372036854775807 < 8+x.length:=by omega
 have cq1:¬ 9223372036854775807 < 8+x.length+abW.length:=by omega
 have cq2:¬ 9223372036854775807 < 8+x.length+abW.length+1:=by omega
 have cq3:¬ 9223372036854775807 < 8+x.length+abW.length+1+T4.length:=by omega
 go_wp2_with fail;obtain⟨Y,HY⟩:∃ Y:Bs,Hid ([111,98,115,101,114,118,101,32] ++ x ++ abW ++ [58] ++ T4=Y):=⟨_,hid rfl⟩;rw [show (⟨#[111,98,115,101,114,118,101,32]⟩:ByteArray) ++ aM (x) ++ aM (abW) ++ (⟨#[58]⟩:ByteArray) ++ aM (T4)=aM Y from by rw [← HY.out] <;> (simp only [← ak];rfl)];have abT:Y.length≤10000000:=by rw [← HY.out];simp only [aaO,List.length_cons,List.length_nil];omega
 refine (ptH H M [a4.ix] (by simp) (by omega)).mono ?_;clear H M;rintro e w6⟨xs6,XB,rfl,H,M,R⟩
 replace LI:=kp R LI
 clear R
 have HF:=hid (show observeG wild x s.tl.tl=acP (([],3,[111,98,115,101,114,118,101]) :: ([32],1,x) :: (abW,4,[58]) :: a4.pc) (acC wild (a4.st)) ⟨44,x,0,[a4.ix],0⟩ from by
  unfold observeG
  try simp only
  rw [HEE.out,fq.out,HG5.out] <;> rfl)
 have HIX:aN (([],3,[111,98,115,101,114,118,101]) :: ([32],1,x) :: (abW,4,[58]) :: a4.pc) ++ trailG s=Y:=by
  rw [HTR.out,List.append_nil];simp only [aN,qZ,sgn];rw [Ji.out,← HY.out] <;> simp only [List.nil_append,List.append_nil,List.append_assoc,List.cons_append]
 have HIY:=hid HIX;clear HIX;obtain⟨id,qP⟩:∃ id,Hid (abd.id (acC wild (a4.st))=id):=⟨_,hid rfl⟩;rw [qP.out];have hrow:=(LI.out.alloc (.cells #[.int .i64 id] 3)).row;have HRW:=hid hrow;have cI:=H.out.blk.cell 2;clear hrow;go_wp2_with (at_builtin;go_loud (refine wpList_append_lies _ rfl (.tmp 234) (.tmp 236) 24 rfl 0 3 j0 (.int .i64 0) 1 8 Tryz.underlying24 hj0 hy0 hy1 hy2 rfl (by decide) _ its.length (intCells its) rfl HRW.out ⟨w6.heap.size,0,none⟩ 1 1 [.int .i64 id] rfl rfl (cell_one_new _ _ _) (by intro u hu;simp at hu;subst hu;rfl) (by omega) (by simp only [maxLen];omega) (by omega) (aaL _) _ rfl ?_);intro gg cap Tx hown hgrow hat hlt;obtain⟨HK,H9,acv,B9⟩:=itB H M rfl Ql LI hw hg hown hgrow hat;have c14:=HK.cell 2;have f14:=HK.frozen 2;clear hown hgrow hat HK)
 refine (plGap_any g wild _ _ ((acC wild (a4.st)).put ⟨44,x,0,[a4.ix],0⟩) _ _ _ H9.out).mono ?_;rintro e w99⟨rfl,lv99,h,m⟩;have H5:=hid h;have L5:=hid (acv.out.mv H9.out m);have B5:=hid (B9.out.trans (H9.out.low m));clear h m;have gl9:=gapG_len wild ((acC wild (a4.st)).put ⟨44,x,0,[a4.ix],0⟩);obtain⟨G,HG⟩:∃ G,Hid (acM wild ((acC wild (a4.st)).put ⟨44,x,0,[a4.ix],0⟩)=G):=⟨_,hid rfl⟩;rw [HG.out] at gl9 ⊢
 have cz0:¬ 9223372036854775807 < Y.length+G.length:=by omega
 have cz1:¬ 9223372036854775807 < Y.length+G.length+1:=by omega
 go_wp2_with fail;go_ret;exact itE (a:=acP (([],3,[111,98,115,101,114,118,101]) :: ([32],1,x) :: (abW,4,[58]) :: a4.pc) (acC wild (a4.st)) ⟨44,x,0,[a4.ix],0⟩) (HB.out.trans HF.out) HIY.out HG.out qP.out (by first|(rw [← ak];rfl)|(rw [← ak,← ak];rfl)) H5.out L5.out B5.out
theorem pi_retract {wild:Bool}{g:Nat}{iv:Value}{w0 w:World}{s:abd}{xs:List NV}{nv lv:Value}{its:List Int}(H:Hid (abH g wild iv w s xs nv lv))(LI:Hid (abK w0 w xs iv its))(hw:w0.heap.size≤w.heap.size)(hg:g < w0.heap.size)(hil:its.length≤1000)(hn:s.ns.length≤100000)(hb:s.nx % 7=5) :
  Calls Tryz.prog 72 #[.pointer (some ⟨g,0,none⟩)] w (ItemPost g wild w0 w its (itemG wild s)):=by
 obtain⟨Ai,ci,hiv⟩:=dh LI.out.row;subst hiv;obtain⟨j0,hj0,hy0,hy1,hy2⟩:=info_parts gN;have Ql:=hid fun (row:Option Nat) (w':World) (m:Mv g nv.ownBlock w row w')=>H.out.low m
 have M:=hid (abJ.refl (g:=g) (w:=w) (xs:=xs) (nv:=nv));have HLT:=hid (cB.lt LI.out.row);have hm7:Int.tmod (s.nx:Int) 7=5:=by rw [Int.tmod_eq_emod_of_nonneg (by omega)];omega
 have HB:=hid (show itemG0 wild s=retractG wild (acH s.tl.nx) s.tl.tl by unfold itemG0;simp only;rw [if_neg (by omega),if_neg (by omega),if_neg (by omega),if_neg (by omega),if_neg (by omega),if_pos hb]);have HTR:=hid (show trailG s=[] from if_neg (fun h=>by omega));go_in
 go_wp2_with fail;refine (nxH H M).mono ?_;clear H M;rintro e w1⟨lv1,rfl,q1,H,M,R⟩
 replace LI:=kp R LI
 clear R;go_wp2_with fail;refine (nxH H M).mono ?_;clear H M;rintro e w2⟨lv2,rfl,q2,H,M,R⟩
 replace LI:=kp R LI
 clear R;go_wp2_with fail;refine (wdH (s.tl.nx) _).mono ?_;rintro e w3⟨x,rfl,Hx,lx,rfl⟩;rw [Hx.out] at HB
 clear hb;go_wp2_with fail;refine (gpH H M).mono ?_;clear H M;rintro e w4⟨G4,lv4,rfl,Jf,gl4,q4,H,M,R⟩
 replace LI:=kp R LI
 clear R;have cq0:¬ 9223372036854775807 < 7+G4.length:=by omega
 have cq1:¬ 9223372036854775807 < 7+G4.length+x.length:=by omega
 go_wp2_with fail;obtain⟨Y,HY⟩:∃ Y:Bs,Hid ([114,101,116,114,97,99,116] ++ G4 ++ x=Y):=⟨_,hid rfl⟩;rw [show (⟨#[114,101,116,114,97,99,116]⟩:ByteArray) ++ aM (G4) ++ aM (x)=aM Y from by rw [← HY.out] <;> (simp only [← ak];rfl)];have abT:Y.length≤10000000:=by rw [← HY.out];simp only [aaO,List.length_cons,List.length_nil];omega
 refine (ptN H M (by omega)).mono ?_;clear H M;rintro e w5⟨xs5,Fu,rfl,H,M,R⟩
 replace LI:=kp R LI
 clear R
 have HF:=hid (show retractG wild x s.tl.tl=acP [([],3,[114,101,116,114,97,99,116]),(G4,1,x)] (acC wild (s.tl.tl)) ⟨45,x,0,[],0⟩ from by
  unfold retractG
  try simp only
  rw [Jf.out] <;> rfl)
 have HIX:aN [([],3,[114,101,116,114,97,99,116]),(G4,1,x)] ++ trailG s=Y:=by
  rw [HTR.out,List.append_nil];simp only [aN,qZ,sgn];rw [← HY.out] <;> simp only [List.nil_append,List.append_nil,List.append_assoc,List.cons_append]
 have HIY:=hid HIX;clear HIX;obtain⟨id,qP⟩:∃ id,Hid (abd.id (acC wild (s.tl.tl))=id):=⟨_,hid rfl⟩;rw [qP.out];have hrow:=(LI.out.alloc (.cells #[.int .i64 id] 3)).row;have HRW:=hid hrow;have cI:=H.out.blk.cell 2;clear hrow;go_wp2_with (at_builtin;go_loud (refine wpList_append_lies _ rfl (.tmp 234) (.tmp 236) 24 rfl 0 3 j0 (.int .i64 0) 1 8 Tryz.underlying24 hj0 hy0 hy1 hy2 rfl (by decide) _ its.length (intCells its) rfl HRW.out ⟨w5.heap.size,0,none⟩ 1 1 [.int .i64 id] rfl rfl (cell_one_new _ _ _) (by intro u hu;simp at hu;subst hu;rfl) (by omega) (by simp only [maxLen];omega) (by omega) (aaL _) _ rfl ?_);intro gg cap Tx hown hgrow hat hlt;obtain⟨HK,H9,acv,B9⟩:=itB H M rfl Ql LI hw hg hown hgrow hat;have c14:=HK.cell 2;have f14:=HK.frozen 2;clear hown hgrow hat HK)
 refine (plGap_any g wild _ _ ((acC wild (s.tl.tl)).put ⟨45,x,0,[],0⟩) _ _ _ H9.out).mono ?_;rintro e w99⟨rfl,lv99,h,m⟩;have H5:=hid h;have L5:=hid (acv.out.mv H9.out m);have B5:=hid (B9.out.trans (H9.out.low m));clear h m;have gl9:=gapG_len wild ((acC wild (s.tl.tl)).put ⟨45,x,0,[],0⟩);obtain⟨G,HG⟩:∃ G,Hid (acM wild ((acC wild (s.tl.tl)).put ⟨45,x,0,[],0⟩)=G):=⟨_,hid rfl⟩;rw [HG.out] at gl9 ⊢
 have cz0:¬ 9223372036854775807 < Y.length+G.length:=by omega
 have cz1:¬ 9223372036854775807 < Y.length+G.length+1:=by omega
 go_wp2_with fail;go_ret;exact itE (a:=acP [([],3,[114,101,116,114,97,99,116]),(G4,1,x)] (acC wild (s.tl.tl)) ⟨45,x,0,[],0⟩) (HB.out.trans HF.out) HIY.out HG.out qP.out (by first|(rw [← ak];rfl)|(rw [← ak,← ak];rfl)) H5.out L5.out B5.out
theorem pi_choose {wild:Bool}{g:Nat}{iv:Value}{w0 w:World}{s:abd}{xs:List NV}{nv lv:Value}{its:List Int}(H:Hid (abH g wild iv w s xs nv lv))(LI:Hid (abK w0 w xs iv its))(hw:w0.heap.size≤w.heap.size)(hg:g < w0.heap.size)(hil:its.length≤1000)(hn:s.ns.length≤100000)(hb:s.nx % 7=0) :
  Calls Tryz.prog 72 #[.pointer (some ⟨g,0,none⟩)] w (ItemPost g wild w0 w its (itemG wild s)):=by
 obtain⟨Ai,ci,hiv⟩:=dh LI.out.row;subst hiv;obtain⟨j0,hj0,hy0,hy1,hy2⟩:=info_parts gN;have Ql:=hid fun (row:Option Nat) (w':World) (m:Mv g nv.ownBlock w row w')=>H.out.low m
 have M:=hid (abJ.refl (g:=g) (w:=w) (xs:=xs) (nv:=nv));have HLT:=hid (cB.lt LI.out.row);have hm7:Int.tmod (s.nx:Int) 7=0:=by rw [Int.tmod_eq_emod_of_nonneg (by omega)];omega
 have HB:=hid (show itemG0 wild s=chooseG wild (acH s.tl.nx) s.tl.tl by unfold itemG0;simp only;rw [if_pos hb]);have HTR:=hid (show trailG s=[] from if_neg (fun h=>by omega));go_in
 go_wp2_with fail;refine (nxH H M).mono ?_;clear H M;rintro e w1⟨lv1,rfl,q1,H,M,R⟩
 replace LI:=kp R LI
 clear R;go_wp2_with fail;refine (nxH H M).mono ?_;clear H M;rintro e w2⟨lv2,rfl,q2,H,M,R⟩
 replace LI:=kp R LI
 clear R;go_wp2_with fail;refine (wdH (s.tl.nx) _).mono ?_;rintro e w3⟨x,rfl,Hx,lx,rfl⟩;rw [Hx.out] at HB
 clear hb;obtain⟨q,hq⟩:∃ m,m=(s.tl.tl).nx % 30:=⟨_,rfl⟩;have zq:Int.tmod ((s.tl.tl).nx:Int) 30=(q:Int):=by rw [Int.tmod_eq_emod_of_nonneg (by omega),hq];omega
 have acu:=hid hq.symm;have acy:q≤29:=by omega
 clear hq;obtain⟨low,hlow⟩:∃ low:Int,low=(q:Int) - 15:=⟨_,rfl⟩;have ab4:IntKind.i64.wrap ((q:Int) - 15)=low:=by rw [IntWalk.i64_in _ (by omega),hlow]
 have Bu:=hid hlow.symm;have hl1:-15≤low:=by omega
 have hl2:low≤14:=by omega
 clear hlow;go_wp2_with fail;refine (nxH H M).mono ?_;clear H M;rintro e w4⟨lv4,rfl,q4,H,M,R⟩
 replace LI:=kp R LI
 clear R;go_wp2_with fail;refine (nbH H M (n:=low) (by omega) (by omega) (by omega)).mono ?_;clear H M;rintro e w5⟨a5,T5,xs5,Fu,lv5,rfl,jX,zO,aco,tl5,bn5,H,M,R⟩
 replace LI:=kp R LI
 clear R;obtain⟨p,hp⟩:∃ m,m=(a5.st).nx % 12:=⟨_,rfl⟩;have zp:Int.tmod ((a5.st).nx:Int) 12=(p:Int):=by rw [Int.tmod_eq_emod_of_nonneg (by omega),hp];omega
 have Hp:=hid hp.symm;have bp:p≤11:=by omega
 clear hp;have zl2:IntKind.i64.wrap (low+(p:Int))=low+(p:Int):=IntWalk.i64_in _ (by omega);go_wp2_with fail;refine (nxH H M).mono ?_;clear H M;rintro e w6⟨lv6,rfl,q6,H,M,R⟩
 replace LI:=kp R LI
 clear R;go_wp2_with fail;refine (nbH H M (n:=low+(p:Int)) (by omega) (by omega) (by omega)).mono ?_;clear H M;rintro e w7⟨a7,T7,xs7,nv7,lv7,rfl,o9,HT7,acw,tl7,bn7,H,M,R⟩
 replace LI:=kp R LI
 clear R;have cp0_0:¬ 9223372036854775807 < 7+x.length:=by omega
 have cp0_1:¬ 9223372036854775807 < 7+x.length+1:=by omega
 go_wp2_with fail;refine (gpH H M).mono ?_;clear H M;rintro e w8⟨abZ,lv8,rfl,HG8,gl8,q8,H,M,R⟩
 replace LI:=kp R LI
 clear R;clear cp0_0 cp0_1;have cp1_0:¬ 9223372036854775807 < 7+x.length:=by omega
 have cp1_1:¬ 9223372036854775807 < 7+x.length+1:=by omega
 have cp1_2:¬ 9223372036854775807 < 7+x.length+1+abZ.length:=by omega
 have cp1_3:¬ 9223372036854775807 < 7+x.length+1+abZ.length+T5.length:=by omega
 go_wp2_with fail;refine (gpH H M).mono ?_;clear H M;rintro e w9⟨ab0,lv9,rfl,HG9,gl9,acs,H,M,R⟩
 replace LI:=kp R LI
 clear R;clear cp1_0 cp1_1 cp1_2 cp1_3;have cp2_0:¬ 9223372036854775807 < 7+x.length:=by omega
 have cp2_1:¬ 9223372036854775807 < 7+x.length+1:=by omega
 have cp2_2:¬ 9223372036854775807 < 7+x.length+1+abZ.length:=by omega
 have cp2_3:¬ 9223372036854775807 < 7+x.length+1+abZ.length+T5.length:=by omega
 have cp2_4:¬ 9223372036854775807 < 7+x.length+1+abZ.length+T5.length+ab0.length:=by omega
 have cp2_5:¬ 9223372036854775807 < 7+x.length+1+abZ.length+T5.length+ab0.length+2:=by omega
 go_wp2_with fail;refine (gpH H M).mono ?_;clear H M;rintro e Qv⟨G10,lv10,rfl,HG10,gl10,q10,H,M,R⟩
 replace LI:=kp R LI
 clear R;clear cp2_0 cp2_1 cp2_2 cp2_3 cp2_4 cp2_5;have cq0:¬ 9223372036854775807 < 7+x.length:=by omega
 have cq1:¬ 9223372036854775807 < 7+x.length+1:=by omega
 have cq2:¬ 9223372036854775807 < 7+x.length+1+abZ.length:=by omega
 have cq3:¬ 9223372036854775807 < 7+x.length+1+abZ.length+T5.length:=by omega
 have cq4:¬ 9223372036854775807 < 7+x.length+1+abZ.length+T5.length+ab0.length:=by omega
 have cq5:¬ 9223372036854775807 < 7+x.length+1+abZ.length+T5.length+ab0.length+2:=by omega
 have cq6:¬ 9223372036854775807 < 7+x.length+1+abZ.length+T5.length+ab0.length+2+G10.length:=by omega
 have cq7:¬ 9223372036854775807 < 7+x.length+1+abZ.length+T5.length+ab0.length+2+G10.length+T7.length:=by omega
 go_wp2_with fail;obtain⟨Y,HY⟩:∃ Y:Bs,Hid ([99,104,111,111,115,101,32] ++ x ++ [58] ++ abZ ++ T5 ++ ab0 ++ [46,46] ++ G10 ++ T7=Y):=⟨_,hid rfl⟩;rw [show (⟨#[99,104,111,111,115,101,32]⟩:ByteArray) ++ aM (x) ++ (⟨#[58]⟩:ByteArray) ++ aM (abZ) ++ aM (T5) ++ aM (ab0) ++ (⟨#[46,46]⟩:ByteArray) ++ aM (G10) ++ aM (T7)=aM Y from by rw [← HY.out] <;> (simp only [← ak];rfl)];have abT:Y.length≤10000000:=by rw [← HY.out];simp only [aaO,List.length_cons,List.length_nil];omega
 refine (ptH H M [a5.ix,a7.ix] (by simp) (by omega)).mono ?_;clear H M;rintro e Et⟨xs11,nv11,rfl,H,M,R⟩
 replace LI:=kp R LI
 clear R
 have HF:=hid (show chooseG wild x s.tl.tl=acP (([],3,[99,104,111,111,115,101]) :: ([32],1,x) :: sgn [58] :: (Pcs.on abZ a5.pc ++ (ab0,4,[46,46]) :: Pcs.on G10 a7.pc)) (acC wild (acC wild (acC wild (a7.st)))) ⟨40,x,0,[a5.ix,a7.ix],0⟩ from by
  unfold chooseG
  try simp only
  rw [acu.out,Bu.out,jX.out,Hp.out,o9.out,HG8.out,HG9.out,HG10.out] <;> rfl)
 have HIX:aN (([],3,[99,104,111,111,115,101]) :: ([32],1,x) :: sgn [58] :: (Pcs.on abZ a5.pc ++ (ab0,4,[46,46]) :: Pcs.on G10 a7.pc)) ++ trailG s=Y:=by
  rw [HTR.out,List.append_nil];simp only [aN,qZ,sgn];rw [aco.out,acw.out,← HY.out] <;> simp only [List.nil_append,List.append_nil,List.append_assoc,List.cons_append]
 have HIY:=hid HIX;clear HIX;obtain⟨id,qP⟩:∃ id,Hid (abd.id (acC wild (acC wild (acC wild (a7.st))))=id):=⟨_,hid rfl⟩;rw [qP.out];have hrow:=(LI.out.alloc (.cells #[.int .i64 id] 3)).row;have HRW:=hid hrow;have cI:=H.out.blk.cell 2;clear hrow;go_wp2_with (at_builtin;go_loud (refine wpList_append_lies _ rfl (.tmp 234) (.tmp 236) 24 rfl 0 3 j0 (.int .i64 0) 1 8 Tryz.underlying24 hj0 hy0 hy1 hy2 rfl (by decide) _ its.length (intCells its) rfl HRW.out ⟨Et.heap.size,0,none⟩ 1 1 [.int .i64 id] rfl rfl (cell_one_new _ _ _) (by intro u hu;simp at hu;subst hu;rfl) (by omega) (by simp only [maxLen];omega) (by omega) (aaL _) _ rfl ?_);intro gg cap Tx hown hgrow hat hlt;obtain⟨HK,H9,acv,B9⟩:=itB H M rfl Ql LI hw hg hown hgrow hat;have c14:=HK.cell 2;have f14:=HK.frozen 2;clear hown hgrow hat HK)
 refine (plGap_any g wild _ _ ((acC wild (acC wild (acC wild (a7.st)))).put ⟨40,x,0,[a5.ix,a7.ix],0⟩) _ _ _ H9.out).mono ?_;rintro e w99⟨rfl,lv99,h,m⟩;have H5:=hid h;have L5:=hid (acv.out.mv H9.out m);have B5:=hid (B9.out.trans (H9.out.low m));clear h m;have gl9:=gapG_len wild ((acC wild (acC wild (acC wild (a7.st)))).put ⟨40,x,0,[a5.ix,a7.ix],0⟩);obtain⟨G,HG⟩:∃ G,Hid (acM wild ((acC wild (acC wild (acC wild (a7.st)))).put ⟨40,x,0,[a5.ix,a7.ix],0⟩)=G):=⟨_,hid rfl⟩;rw [HG.out] at gl9 ⊢
 have cz0:¬ 9223372036854775807 < Y.length+G.length:=by omega
 have cz1:¬ 9223372036854775807 < Y.length+G.length+1:=by omega
 go_wp2_with fail;go_ret;exact itE (a:=acP (([],3,[99,104,111,111,115,101]) :: ([32],1,x) :: sgn [58] :: (Pcs.on abZ a5.pc ++ (ab0,4,[46,46]) :: Pcs.on G10 a7.pc)) (acC wild (acC wild (acC wild (a7.st)))) ⟨40,x,0,[a5.ix,a7.ix],0⟩) (HB.out.trans HF.out) HIY.out HG.out qP.out (by first|(rw [← ak];rfl)|(rw [← ak,← ak];rfl)) H5.out L5.out B5.out
theorem pi_type {wild:Bool}{g:Nat}{iv:Value}{w0 w:World}{s:abd}{xs:List NV}{nv lv:Value}{its:List Int}(H:Hid (abH g wild iv w s xs nv lv))(LI:Hid (abK w0 w xs iv its))(hw:w0.heap.size≤w.heap.size)(hg:g < w0.heap.size)(hil:its.length≤1000)(hn:s.ns.length≤100000)(hb:s.nx % 7=1) :
  Calls Tryz.prog 72 #[.pointer (some ⟨g,0,none⟩)] w (ItemPost g wild w0 w its (itemG wild s)):=by
 obtain⟨Ai,ci,hiv⟩:=dh LI.out.row;subst hiv;obtain⟨j0,hj0,hy0,hy1,hy2⟩:=info_parts gN;have Ql:=hid fun (row:Option Nat) (w':World) (m:Mv g nv.ownBlock w row w')=>H.out.low m
 have M:=hid (abJ.refl (g:=g) (w:=w) (xs:=xs) (nv:=nv));have HLT:=hid (cB.lt LI.out.row);have hm7:Int.tmod (s.nx:Int) 7=1:=by rw [Int.tmod_eq_emod_of_nonneg (by omega)];omega
 have HB:=hid (show itemG0 wild s=typeG wild (acH s.tl.nx) s.tl.tl by unfold itemG0;simp only;rw [if_neg (by omega),if_pos hb]);have HTR:=hid (show trailG s=[] from if_neg (fun h=>by omega));go_in
 go_wp2_with fail;refine (nxH H M).mono ?_;clear H M;rintro e w1⟨lv1,rfl,q1,H,M,R⟩
 replace LI:=kp R LI
 clear R;go_wp2_with fail;refine (nxH H M).mono ?_;clear H M;rintro e w2⟨lv2,rfl,q2,H,M,R⟩
 replace LI:=kp R LI
 clear R;go_wp2_with fail;refine (wdH (s.tl.nx) _).mono ?_;rintro e w3⟨x,rfl,Hx,lx,rfl⟩;rw [Hx.out] at HB
 clear hb;obtain⟨m6,hm6⟩:∃ m,m=(s.tl.tl).nx % 6:=⟨_,rfl⟩;have zm6:Int.tmod ((s.tl.tl).nx:Int) 6=(m6:Int):=by rw [Int.tmod_eq_emod_of_nonneg (by omega),hm6];omega
 have Hm6:=hid hm6.symm;have bm6:m6≤5:=by omega
 clear hm6;have ym6:IntKind.i64.wrap (1+(m6:Int))=((1+m6:Nat):Int):=by rw [IntWalk.i64_in _ (by omega)];omega
 go_wp2_with fail;refine (nxH H M).mono ?_;clear H M;rintro e w4⟨lv4,rfl,q4,H,M,R⟩
 replace LI:=kp R LI
 clear R;go_wp2_with fail;refine (prH H M (m:=1+m6) (by omega) (by omega)).mono ?_;clear H M;rintro e w5⟨r5,T5,A5,c5,xs5,Fu,lv5,rfl,jX,zO,tl5,bn5,hrl5,LL,H,M,R⟩
 replace LI:=kp R LI
 clear R;have cq0:¬ 9223372036854775807 < 5+x.length:=by omega
 have cq1:¬ 9223372036854775807 < 5+x.length+2:=by omega
 have cq2:¬ 9223372036854775807 < 5+x.length+2+T5.length:=by omega
 have cq3:¬ 9223372036854775807 < 5+x.length+2+T5.length+1:=by omega
 go_wp2_with fail;obtain⟨Y,HY⟩:∃ Y:Bs,Hid ([116,121,112,101,32] ++ x ++ [61,123] ++ T5 ++ [125]=Y):=⟨_,hid rfl⟩;rw [show (⟨#[116,121,112,101,32]⟩:ByteArray) ++ aM (x) ++ (⟨#[61,123]⟩:ByteArray) ++ aM (T5) ++ (⟨#[125]⟩:ByteArray)=aM Y from by rw [← HY.out] <;> (simp only [← ak];rfl)];have abT:Y.length≤10000000:=by rw [← HY.out];simp only [aaO,List.length_cons,List.length_nil];omega
 refine (ptL H M LL (by omega)).mono ?_;clear H M;rintro e w6⟨xs6,XB,rfl,H,M,R⟩
 replace LI:=hid (R.out _ _ _ HLT.out LI.out)
 clear R
 have HF:=hid (show typeG wild x s.tl.tl=acP (([],3,[116,121,112,101]) :: ([32],1,x) :: sgn [61] :: sgn [123] :: (r5.pc ++ [sgn [125]])) (r5.st) ⟨41,x,0,r5.ix,0⟩ from by
  unfold typeG
  try simp only
  rw [Hm6.out,jX.out] <;> rfl)
 have HIX:aN (([],3,[116,121,112,101]) :: ([32],1,x) :: sgn [61] :: sgn [123] :: (r5.pc ++ [sgn [125]])) ++ trailG s=Y:=by
  rw [HTR.out,List.append_nil];simp only [aN,qZ,sgn];rw [zO.out,← HY.out] <;> simp only [List.nil_append,List.append_nil,List.append_assoc,List.cons_append]
 have HIY:=hid HIX;clear HIX;obtain⟨id,qP⟩:∃ id,Hid (abd.id (r5.st)=id):=⟨_,hid rfl⟩;rw [qP.out];have hrow:=(LI.out.alloc (.cells #[.int .i64 id] 3)).row;have HRW:=hid hrow;have cI:=H.out.blk.cell 2;clear hrow;go_wp2_with (at_builtin;go_loud (refine wpList_append_lies _ rfl (.tmp 234) (.tmp 236) 24 rfl 0 3 j0 (.int .i64 0) 1 8 Tryz.underlying24 hj0 hy0 hy1 hy2 rfl (by decide) _ its.length (intCells its) rfl HRW.out ⟨w6.heap.size,0,none⟩ 1 1 [.int .i64 id] rfl rfl (cell_one_new _ _ _) (by intro u hu;simp at hu;subst hu;rfl) (by omega) (by simp only [maxLen];omega) (by omega) (aaL _) _ rfl ?_);intro gg cap Tx hown hgrow hat hlt;obtain⟨HK,H9,acv,B9⟩:=itB H M rfl Ql LI hw hg hown hgrow hat;have c14:=HK.cell 2;have f14:=HK.frozen 2;clear hown hgrow hat HK)
 refine (plGap_any g wild _ _ ((r5.st).put ⟨41,x,0,r5.ix,0⟩) _ _ _ H9.out).mono ?_;rintro e w99⟨rfl,lv99,h,m⟩;have H5:=hid h;have L5:=hid (acv.out.mv H9.out m);have B5:=hid (B9.out.trans (H9.out.low m));clear h m;have gl9:=gapG_len wild ((r5.st).put ⟨41,x,0,r5.ix,0⟩);obtain⟨G,HG⟩:∃ G,Hid (acM wild ((r5.st).put ⟨41,x,0,r5.ix,0⟩)=G):=⟨_,hid rfl⟩;rw [HG.out] at gl9 ⊢
 have cz0:¬ 9223372036854775807 < Y.length+G.length:=by omega
 have cz1:¬ 9223372036854775807 < Y.length+G.length+1:=by omega
 go_wp2_with fail;go_ret;exact itE (a:=acP (([],3,[116,121,112,101]) :: ([32],1,x) :: sgn [61] :: sgn [123] :: (r5.pc ++ [sgn [125]])) (r5.st) ⟨41,x,0,r5.ix,0⟩) (HB.out.trans HF.out) HIY.out HG.out qP.out (by first|(rw [← ak];rfl)|(rw [← ak,← ak];rfl)) H5.out L5.out B5.out
def APost (g:Nat)(wild:Bool)(iv:Value)(w:World)(xs:List NV)(nv:Value)(q:Nat)(r:abb)(e:Ending)(w':World):Prop :=
 e=.returned (.tuple #[.string (aM (aN r.pc ++ (if q=7 then [32] else []))),.int .i64 r.ix])∧∃ xs' eO lv',abH g wild iv w' r.st xs' eO lv'∧abJ g w xs nv w' xs' eO
theorem pa_blame {wild:Bool}{q:Nat}(hq1:1≤q)(hqq:q≤8)(hq7:q=7){g:Nat}{iv:Value}{w:World}{s:abd}{xs:List NV}{nv lv:Value}(H:Hid (abH g wild iv w s xs nv lv))(hn:s.ns.length≤600000) :
  Calls Tryz.prog 118 #[.pointer (some ⟨g,0,none⟩),.int .i64 (q:Int)] w (APost g wild iv w xs nv q (askG wild q s)):=by
 have M:=hid (abJ.refl (g:=g) (w:=w) (xs:=xs) (nv:=nv));have X:=hid (x3_is wild);have ach:=hid (l3_is wild);subst hq7;have hrun0:=run_queries 7 (by omega);rw [show ((7:Nat):Int)=7 from rfl] at hrun0
 have ab6:=query_le 7 (by omega);obtain⟨ab5,HQN⟩:∃ ab5,Hid (sg queriesG 7=ab5):=⟨_,hid rfl⟩;rw [HQN.out] at hrun0 ab6
 have zk0:(0:Int)≤((7:Nat):Int):=by omega
 have zk1:((7:Nat):Int) < 9:=by omega
 go_in
 go_wp2_with fail;refine (lsH H M X ach (m:=0) (by omega) (by omega)).mono ?_;clear H M;rintro e w1⟨r1,T1,A1,c1,xs1,gW,lv1,rfl,HA1,HT1,acj,Z1,tl1,bn1,LL,H,M,-⟩;go_wp2_with fail;refine (gpH H M).mono ?_;clear H M;rintro e w2⟨G2,lv2,rfl,HG2,gl2,q2,H,M,R⟩
 replace LL:=kp R LL
 clear R;have cq0:¬ 9223372036854775807 < 3+G2.length:=by omega
 have cq1:¬ 9223372036854775807 < 3+G2.length+ab5.length:=by omega
 have cq2:¬ 9223372036854775807 < 3+G2.length+ab5.length+1:=by omega
 have cq3:¬ 9223372036854775807 < 3+G2.length+ab5.length+1+T1.length:=by omega
 go_wp2_with fail;obtain⟨Y,HY⟩:∃ Y:Bs,Hid ([97,115,107] ++ G2 ++ ab5 ++ [32] ++ T1=Y):=⟨_,hid rfl⟩;rw [show (⟨#[97,115,107]⟩:ByteArray) ++ aM (G2) ++ aM (ab5) ++ (⟨#[32]⟩:ByteArray) ++ aM (T1)=aM Y from by rw [← HY.out] <;> (simp only [← ak];rfl)];have abT:Y.length≤10000000:=by rw [← HY.out];simp only [aaO,List.length_cons,List.length_nil];omega
 refine (ptL H M LL (by omega)).mono ?_;clear H M;rintro e w3⟨Xj,FM,rfl,H,M,-⟩;go_wp2_with fail;go_ret2
 have HF:=hid (show askG wild 7 s=acP (([],3,[97,115,107]) :: (G2,3,ab5) :: Pcs.on [32] r1.pc) (acC wild (r1.st)) ⟨46,[],((7:Nat):Int),r1.ix,0⟩ from by
  unfold askG;simp only [↓reduceIte,Nat.reduceEqDiff];rw [HA1.out,HQN.out,HG2.out] <;> rfl)
 rw [HF.out]
 refine⟨?_,_,_,_,H.out,M.out⟩
 show _=Ending.returned (.tuple #[.string (aM (aN (([],3,[97,115,107]) :: (G2,3,ab5) :: Pcs.on [32] r1.pc) ++ _)),.int .i64 (acC wild (r1.st)).id])
 have HI:aN (([],3,[97,115,107]) :: (G2,3,ab5) :: Pcs.on [32] r1.pc) ++ (if 7=7 then [32] else [])=Y:=by
  have hT:=HT1.out;rw [Z1.out (by first | rfl | trivial)] at hT ⊢
  rw [if_pos rfl,← HY.out,← hT];simp only [aN,Pcs.on];simp only [List.nil_append,List.append_nil,List.append_assoc,List.cons_append]
 rw [HI];rfl
theorem pa_look {wild:Bool}{q:Nat}(hq1:1≤q)(hqq:q≤8)(hq8:q=8){g:Nat}{iv:Value}{w:World}{s:abd}{xs:List NV}{nv lv:Value}(H:Hid (abH g wild iv w s xs nv lv))(hn:s.ns.length≤600000) :
  Calls Tryz.prog 118 #[.pointer (some ⟨g,0,none⟩),.int .i64 (q:Int)] w (APost g wild iv w xs nv q (askG wild q s)):=by
 have M:=hid (abJ.refl (g:=g) (w:=w) (xs:=xs) (nv:=nv));have X:=hid (x3_is wild);have ach:=hid (l3_is wild);subst hq8;obtain⟨m4,hm4⟩:∃ m,m=(s).nx % 4:=⟨_,rfl⟩;have zm4:Int.tmod ((s).nx:Int) 4=(m4:Int):=by rw [Int.tmod_eq_emod_of_nonneg (by omega),hm4];omega
 have Hm4:=hid hm4.symm;have bm4:m4≤3:=by omega
 clear hm4;have ym4:IntKind.i64.wrap (1+(m4:Int))=((1+m4:Nat):Int):=by rw [IntWalk.i64_in _ (by omega)];omega
 have hrun0:=run_queries 8 (by omega);rw [show ((8:Nat):Int)=8 from rfl] at hrun0
 have ab6:=query_le 8 (by omega);obtain⟨ab5,HQN⟩:∃ ab5,Hid (sg queriesG 8=ab5):=⟨_,hid rfl⟩;rw [HQN.out] at hrun0 ab6
 have zk0:(0:Int)≤((8:Nat):Int):=by omega
 have zk1:((8:Nat):Int) < 9:=by omega
 go_in
 go_wp2_with fail;refine (nxH H M).mono ?_;clear H M;rintro e w1⟨lv1,rfl,q1,H,M,-⟩;go_wp2_with fail;refine (lsH H M X ach (m:=1+m4) (by omega) (by omega)).mono ?_;clear H M;rintro e w2⟨r2,T2,A2,c2,xs2,Qu,lv2,rfl,HA2,HT2,O2,Z2,tl2,bn2,LL,H,M,-⟩;go_wp2_with fail;refine (gpH H M).mono ?_;clear H M;rintro e w3⟨G3,lv3,rfl,HG3,gl3,q3,H,M,R⟩
 replace LL:=kp R LL
 clear R;have cq0:¬ 9223372036854775807 < 3+G3.length:=by omega
 have cq1:¬ 9223372036854775807 < 3+G3.length+ab5.length:=by omega
 have cq2:¬ 9223372036854775807 < 3+G3.length+ab5.length+1:=by omega
 have cq3:¬ 9223372036854775807 < 3+G3.length+ab5.length+1+T2.length:=by omega
 go_wp2_with fail;obtain⟨Y,HY⟩:∃ Y:Bs,Hid ([97,115,107] ++ G3 ++ ab5 ++ [32] ++ T2=Y):=⟨_,hid rfl⟩;rw [show (⟨#[97,115,107]⟩:ByteArray) ++ aM (G3) ++ aM (ab5) ++ (⟨#[32]⟩:ByteArray) ++ aM (T2)=aM Y from by rw [← HY.out] <;> (simp only [← ak];rfl)];have abT:Y.length≤10000000:=by rw [← HY.out];simp only [aaO,List.length_cons,List.length_nil];omega
 refine (ptL H M LL (by omega)).mono ?_;clear H M;rintro e w4⟨xs4,yH,rfl,H,M,-⟩;go_wp2_with fail;go_ret2
 have HF:=hid (show askG wild 8 s=acP (([],3,[97,115,107]) :: (G3,3,ab5) :: Pcs.on [32] r2.pc) (acC wild (r2.st)) ⟨46,[],((8:Nat):Int),r2.ix,0⟩ from by
  unfold askG;simp only [↓reduceIte,Nat.reduceEqDiff];rw [Hm4.out,HA2.out,HQN.out,HG3.out] <;> rfl)
 rw [HF.out]
 refine⟨?_,_,_,_,H.out,M.out⟩
 show _=Ending.returned (.tuple #[.string (aM (aN (([],3,[97,115,107]) :: (G3,3,ab5) :: Pcs.on [32] r2.pc) ++ _)),.int .i64 (acC wild (r2.st)).id])
 have HI:aN (([],3,[97,115,107]) :: (G3,3,ab5) :: Pcs.on [32] r2.pc) ++ (if 8=7 then [32] else [])=Y:=by
  rw [if_neg (by omega),List.append_nil,← HY.out];simp only [aN];rw [O2.out (by omega)];simp only [List.nil_append,List.append_nil,List.append_assoc,List.cons_append]
 rw [HI];rfl
theorem pa_one {wild:Bool}{q:Nat}(hq1:1≤q)(hqq:q≤8)(hq7:¬ q=7)(hq8:¬ q=8){g:Nat}{iv:Value}{w:World}{s:abd}{xs:List NV}{nv lv:Value}(H:Hid (abH g wild iv w s xs nv lv))(hn:s.ns.length≤600000) :
  Calls Tryz.prog 118 #[.pointer (some ⟨g,0,none⟩),.int .i64 (q:Int)] w (APost g wild iv w xs nv q (askG wild q s)):=by
 have M:=hid (abJ.refl (g:=g) (w:=w) (xs:=xs) (nv:=nv));have X:=hid (x3_is wild);have ach:=hid (l3_is wild);have z7:¬ (q:Int)=7:=by omega
 have ab7:¬ (q:Int)=8:=by omega
 have hrun0:=run_queries q (by omega);have ab6:=query_le q (by omega);obtain⟨ab5,HQN⟩:∃ ab5,Hid (sg queriesG q=ab5):=⟨_,hid rfl⟩;rw [HQN.out] at hrun0 ab6
 have zk0:(0:Int)≤((q:Nat):Int):=by omega
 have zk1:((q:Nat):Int) < 9:=by omega
 go_in
 go_wp2_with fail;refine (lsH H M X ach (m:=1) (by omega) (by omega)).mono ?_;clear H M;rintro e w1⟨r1,T1,A1,c1,xs1,gW,lv1,rfl,HA1,HT1,acj,Z1,tl1,bn1,LL,H,M,-⟩;go_wp2_with fail;refine (gpH H M).mono ?_;clear H M;rintro e w2⟨G2,lv2,rfl,HG2,gl2,q2,H,M,R⟩
 replace LL:=kp R LL
 clear R;have cq0:¬ 9223372036854775807 < 3+G2.length:=by omega
 have cq1:¬ 9223372036854775807 < 3+G2.length+ab5.length:=by omega
 have cq2:¬ 9223372036854775807 < 3+G2.length+ab5.length+1:=by omega
 have cq3:¬ 9223372036854775807 < 3+G2.length+ab5.length+1+T1.length:=by omega
 go_wp2_with fail;obtain⟨Y,HY⟩:∃ Y:Bs,Hid ([97,115,107] ++ G2 ++ ab5 ++ [32] ++ T1=Y):=⟨_,hid rfl⟩;rw [show (⟨#[97,115,107]⟩:ByteArray) ++ aM (G2) ++ aM (ab5) ++ (⟨#[32]⟩:ByteArray) ++ aM (T1)=aM Y from by rw [← HY.out] <;> (simp only [← ak];rfl)];have abT:Y.length≤10000000:=by rw [← HY.out];simp only [aaO,List.length_cons,List.length_nil];omega
 refine (ptL H M LL (by omega)).mono ?_;clear H M;rintro e w3⟨Xj,FM,rfl,H,M,-⟩;go_wp2_with fail;go_ret2
 have HF:=hid (show askG wild q s=acP (([],3,[97,115,107]) :: (G2,3,ab5) :: Pcs.on [32] r1.pc) (acC wild (r1.st)) ⟨46,[],((q:Nat):Int),r1.ix,0⟩ from by
  unfold askG;simp only
  rw [if_neg hq7,if_neg hq8,if_neg hq8,HA1.out,HQN.out,HG2.out] <;> rfl)
 rw [HF.out]
 refine⟨?_,_,_,_,H.out,M.out⟩
 show _=Ending.returned (.tuple #[.string (aM (aN (([],3,[97,115,107]) :: (G2,3,ab5) :: Pcs.on [32] r1.pc) ++ _)),.int .i64 (acC wild (r1.st)).id])
 have HI:aN (([],3,[97,115,107]) :: (G2,3,ab5) :: Pcs.on [32] r1.pc) ++ (if q=7 then [32] else [])=Y:=by
  rw [if_neg (by omega),List.append_nil,← HY.out];simp only [aN];rw [acj.out (by omega)];simp only [List.nil_append,List.append_nil,List.append_assoc,List.cons_append]
 rw [HI];rfl
theorem akH {g:Nat}{wild:Bool}{iv nv0 nv lv:Value}{w0 w:World}{s:abd}{xs0 xs:List NV}(H:Hid (abH g wild iv w s xs nv lv))(M:Hid (abJ g w0 xs0 nv0 w xs nv)){q:Nat}(hq1:1≤q)(hq8:q≤8)(hn:s.ns.length≤600000):Calls Tryz.prog 118 #[.pointer (some ⟨g,0,none⟩),.int .i64 (q:Int)] w fun e w'=>∃ a Y xs' eO lv',e=.returned (.tuple #[.string (aM Y),.int .i64 a.ix])∧Hid (askG wild q s=a)∧Hid (aN a.pc ++ (if q=7 then [32] else [])=Y)∧Y.length≤20000∧Hid (abH g wild iv w' a.st xs' eO lv')∧Hid (abJ g w0 xs0 nv0 w' xs' eO)∧Hid (Kp w xs w' xs'):=by
 have hC:Calls Tryz.prog 118 #[.pointer (some ⟨g,0,none⟩),.int .i64 (q:Int)] w (APost g wild iv w xs nv q (askG wild q s)):=by
  by_cases h7:q=7
  ·exact pa_blame hq1 hq8 h7 H hn
  by_cases h8:q=8
  ·exact pa_look hq1 hq8 h8 H hn
  ·exact pa_one hq1 hq8 h7 h8 H hn
 refine hC.mono ?_;rintro e w' ⟨rfl,xs',eO,lv',h,m⟩
 refine⟨_,_,xs',eO,lv',rfl,hid rfl,hid rfl,?_,hid h,hid (M.out.trans m),hid fun w1 v ks L=>L.mw H.out m⟩
 have h1:(aN (askG wild q s).pc).length≤11000:=(ask_bd wild q hq8 s).1;have h2:(if q=7 then [32] else ([]:Bs)).length≤1:=by split <;> simp
 rw [aaO];omega
end Go.Proofs.YthepmkjggfijoaaGreatDoor
