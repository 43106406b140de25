/-
  A part of the proof.
-/
import Derived.Test.YthepmkjggfijoaaGreatDoorSA
import Derived.Test.YthepmkjggfijoaaGreatDoorJ07
import Derived.Test.YthepmkjggfijoaaGreatDoorJ08
set_option linter.all false
set_option maxRecDepth 100000
set_option maxHeartbeats 4000000
namespace Go.Proofs.YthepmkjggfijoaaGreatDoor
open Go.RowKit Mist
attribute [local go_sem] aj aH aS aB ak
theorem apart_hi {v u:Value}{n:Nat}(h1:∀ b,u.ownBlock=some b→b < n)(h2:∀ b,v.ownBlock=some b→n≤b):u.ownBlock=none∨u.ownBlock ≠ v.ownBlock:=by
 rcases h9:u.ownBlock with _ | b
 ·exact .inl rfl
 ·right
  intro e
  have:=h1 b h9
  have:=h2 b e.symm
  omega
section
variable {g:Nat} {wild:Bool} {iv lv:Value} {w0 w w1:World} {s:abd} {xs xs1:List NV} {nv gW:Value} {v u:Value} {ks js:List Int}
theorem abK.farP (h:abK w0 w xs v ks){b:Nat}{cs:Array Value}(a:aC w b 81 cs)(i:Nat)(u:Value):abK w0 (w.setCell ⟨b,i,none⟩ u) xs v ks:=⟨ownsRow_setCell_other h.row (aT h.row a (by decide)) u,h.lo,h.far⟩
theorem abK.base (h:abK w1 w xs v ks)(h0:w0.heap.size≤w1.heap.size):abK w0 w xs v ks:=⟨h.row,fun b a=>Nat.le_trans h0 (h.lo b a),h.far⟩
theorem abK.keep (h:abK w0 w xs v ks)(b:w.grownBy w1 u.ownBlock)(a:v.ownBlock=none∨v.ownBlock ≠ u.ownBlock):abK w0 w1 xs v ks:=⟨World.ownsRow.kept h.row b a,h.lo,h.far⟩
theorem abK.grows (h:abK w0 w xs v ks){a cap:Nat}(q:abH g wild iv w s xs nv lv)(d:w1.ownsRow 0 3 1 (.slice (some ⟨a,0,none⟩) (ks.length+js.length) cap) (ks.length+js.length) (intCells ks ++ intCells js))(c:v.ownBlock=some a∨a=w.heap.size)(h0:w0.heap.size≤w.heap.size):abK w0 w1 xs (.slice (some ⟨a,0,none⟩) (ks.length+js.length) cap) (ks ++ js):=by
 refine⟨?_,fun b f=>?_,fun x i=>?_⟩
 ·unfold cB;rw [aaO,show intCells (ks ++ js)=intCells ks ++ intCells js by unfold intCells;rw [List.map_append]];exact d
 ·have f:a=b:=by simpa [Value.ownBlock] using f
  subst f;rcases c with e | e
  ·exact h.lo _ e
  ·omega
 ·rcases c with e | e
  ·have:=h.far x i
   rw [e] at this
   simpa [Value.ownBlock] using this
  ·rcases h9:x.2.ownBlock with _ | b
   ·exact .inl rfl
   ·right
    intro j;have h1:=cB.lt (q.kids x i) b h9;simp [Value.ownBlock] at j
    omega
theorem abH.items (h:abH g wild iv w s xs nv lv)(AY:Value):abH g wild AY (w.setCell ⟨g,2,none⟩ AY) s xs nv lv :=
 have m:Mv g nv.ownBlock w nv.ownBlock (w.setCell ⟨g,2,none⟩ AY):=Mv.d_ h.blk 2 AY
 ⟨(by have:=h.blk.d_ 2 AY;simpa using this),h.seed.below (h.low m) (aaK h.lt),ownsRow_setCell_other h.own (aT h.own h.blk (by decide)) _,fun x a=>h.l6 m (h.kids x a),h.ns,h.pow.on (h.low m)⟩
end
def ItemPost (g:Nat)(wild:Bool)(w0 w:World)(its:List Int)(r:abb)(e:Ending)(w':World):Prop :=
 e=.returned (.string (aM (aN r.pc)))∧∃ AY xs' eO lv',abH g wild AY w' r.st xs' eO lv'∧abK w0 w' xs' AY (its ++ [r.ix])∧Below g w w'
theorem x4_is (wild:Bool):aci wild (acN wild 4) 700000 (.int .i64 4) :=
 ⟨fun g iv w s xs nv lv h a=>expr_four wild g iv w s xs nv lv h (by omega),bd_more (expr_bd wild 4) (by decide) (by decide),fun s=>expr_good wild 4 s⟩
theorem x3_is (wild:Bool):aci wild (acN wild 3) 750000 (.int .i64 3) :=
 ⟨fun g iv w s xs nv lv h a=>expr_three wild g iv w s xs nv lv h (by omega),bd_more (expr_bd wild 3) (by decide) (by decide),fun s=>expr_good wild 3 s⟩
theorem l3_is (wild:Bool):LsC wild (acN wild 3) 700000 (.int .i64 4):=fun m a g iv w s xs nv lv h b =>
 plList_any wild 3 750000 (by omega) (expr_three wild) (by decide) (by decide) m a g iv w s xs nv lv h (by omega)
section
variable {g:Nat} {wild:Bool} {iv nv0 nv lv:Value} {w0 w:World} {s:abd} {xs0 xs:List NV} (H:Hid (abH g wild iv w s xs nv lv)) (M:Hid (abJ g w0 xs0 nv0 w xs nv))
include H M
theorem kdH (f:s.ns.length≤800000):Calls Tryz.prog 116 #[.pointer (some ⟨g,0,none⟩),.int .i64 2] w fun e d=>∃ a T b eO c,e=.returned (.tuple #[.string (aM T),.int .i64 a.ix])∧Hid (acQ wild 2 s=a)∧Hid (aN a.pc=T)∧Hid (∀ u,aN (Pcs.on u a.pc)=u ++ T)∧T.length≤100∧a.st.ns.length≤s.ns.length+3∧Hid (abH g wild iv d a.st b eO c)∧Hid (abJ g w0 xs0 nv0 d b eO)∧Hid (Kp w xs d b):=by
 refine (vo wild g iv _ s _ _ _ H.o f).mono ?_;rintro e d ⟨rfl,b,eO,c,h,m⟩;obtain⟨b1,b2⟩:=kind_bd wild 2 s;exact⟨_,_,b,eO,c,rfl,O rfl,O rfl,O (on_text (typ_good wild 2 s)),Nat.le_trans b1 (by omega),b2,O h,O (M.o.trans m),O fun w1 v ks L=>L.mw H.o m⟩
theorem nbH {n:Int}(h0:-140 < n)(h1:n < 140)(f:s.ns.length≤900000):Calls Tryz.prog 112 #[.pointer (some ⟨g,0,none⟩),.int .i64 n] w fun e d=>∃ a T b eO c,e=.returned (.tuple #[.string (aM T),.int .i64 a.ix])∧Hid (numberG n s=a)∧Hid (aN a.pc=T)∧Hid (∀ u,aN (Pcs.on u a.pc)=u ++ T)∧T.length≤100∧a.st.ns.length≤s.ns.length+1∧Hid (abH g wild iv d a.st b eO c)∧Hid (abJ g w0 xs0 nv0 d b eO)∧Hid (Kp w xs d b):=by
 refine (plNumber_any wild n (by omega) (by omega) g iv _ s _ _ _ H.o f).mono ?_;rintro e d ⟨rfl,b,eO,c,h,m⟩;obtain⟨b1,b2⟩:=num_bd n h0 h1 s;exact⟨_,_,b,eO,c,rfl,O rfl,O rfl,O (on_ne (num_ne n)),Nat.le_trans b1 (by omega),Nat.le_of_eq b2,O h,O (M.o.trans m),O fun w1 v ks L=>L.mw H.o m⟩
theorem prH {m:Nat}(n:m≤6)(q:s.ns.length≤700000):Calls Tryz.prog 115 #[.pointer (some ⟨g,0,none⟩),.int .i64 (m:Int)] w fun e f=>∃ r T A c a eO d,e=.returned (.tuple #[.string (aM T),.slice A r.ix.length c])∧Hid (acO wild m ⟨[],[],s⟩=r)∧Hid (aN r.pc=T)∧T.length≤500∧r.st.ns.length≤s.ns.length+30∧r.ix.length≤6∧Hid (abK w0 f a (.slice A r.ix.length c) r.ix)∧Hid (abH g wild iv f r.st a eO d)∧Hid (abJ g w0 xs0 nv0 f a eO)∧Hid (Kp w xs f a):=by
 refine (plParams_any wild 700000 (by omega) m n g iv _ s _ _ _ H.o q).mono ?_;rintro e f ⟨A,c,a,eO,d,rfl,l,h,k⟩;obtain⟨b1,b2,i⟩:=params_bd wild m ⟨[],[],s⟩;rw [tl_nil] at b1
 have b2:(acO wild m ⟨[],[],s⟩).st.ns.length≤s.ns.length+m * 4:=b2;have i:(acO wild m ⟨[],[],s⟩).ix.length=0+m:=i;exact⟨_,_,A,c,a,eO,d,rfl,O rfl,O rfl,Nat.le_trans b1 (by omega),by omega,by omega,O ⟨l.row,fun b j=>Nat.le_trans M.o.size (l.lo b j),l.far⟩,O h,O (M.o.trans k),O fun w1 v ks L=>L.mw H.o k⟩
theorem itB {e:Option Addr}{f c cap:Nat}{id:Int}{its:List Int}{j d:World}(C:iv=.slice e its.length f)(B:Hid (∀ (row:Option Nat) (t:World),Mv g nv0.ownBlock w0 row t→Below g w0 t))(L:Hid (abK j w xs (.slice e its.length f) its))(F:j.heap.size≤w0.heap.size)(D:g < j.heap.size)
  (i:d.ownsRow 0 3 1 (.slice (some ⟨c,0,none⟩) (its.length+1) cap) (its.length+1) (intCells its ++ [.int .i64 id])) (a:(w.alloc (.cells #[.int .i64 id] 3)).grownBy d (Value.slice e its.length f).ownBlock) (q:(Value.slice e its.length f).ownBlock=some c∨c=(w.alloc (.cells #[.int .i64 id] 3)).heap.size) :
  aC d g 81 #[lv,nv,.slice e its.length f,.bool wild]∧Hid (abH g wild (.slice (some ⟨c,0,none⟩) (its.length+1) cap) (d.setCell ⟨g,2,none⟩ (.slice (some ⟨c,0,none⟩) (its.length+1) cap)) s xs nv lv)∧Hid (abK j (d.setCell ⟨g,2,none⟩ (.slice (some ⟨c,0,none⟩) (its.length+1) cap)) xs (.slice (some ⟨c,0,none⟩) (its.length+1) cap) (its ++ [id]))∧Hid (Below g w0 (d.setCell ⟨g,2,none⟩ (.slice (some ⟨c,0,none⟩) (its.length+1) cap))):=by
 subst C;have E:=M.o.size;have r:=B.o _ _ M.o.mv;have n:=L.o.alloc (.cells #[.int .i64 id] 3);have l:=H.o.alloc (.cells #[.int .i64 id] 3);have m:=r.alloc (by have:=r.size;have:=H.o.lt;omega) (.cells #[.int .i64 id] 3);have h:=fun b A=>aaK (aaW D (n.lo b A))
 have y:=n.grow l i q (Nat.le_trans F (by simp;omega));have k:=l.grow n a h;have x:=m.grown a (aaK l.lt) h;exact⟨k.blk,O (k.items _),O (y.farP k.blk 2 _),O (dx x (aaJ _))⟩
end
theorem itE {g:Nat}{wild:Bool}{w0 w c:World}{s:abd}{its:List Int}{a:abb}{Y G:Bs}{t:ByteArray}{iv nv lv:Value}{xs:List NV}{id:Int}(f:itemG0 wild s=a)(e:aN a.pc ++ trailG s=Y)(d:acP wild a.st=G)(hi:a.ix=id)(i:t=aM (Y ++ G ++ [59]))(h:abH g wild iv c (acJ wild a.st) xs nv lv)(l:abK w0 c xs iv (its ++ [id]))(b:Below g w c):ItemPost g wild w0 w its (itemG wild s) (.returned (.string t)) c:=by
 subst f d hi
 refine⟨?_,iv,xs,nv,lv,h,l,b⟩
 rw [i,← e]
 show _=Ending.returned (.string (aM (aN ((itemG0 wild s).pc ++ [(trailG s ++ acP wild (itemG0 wild s).st,4,[59])]))))
 rw [qZ];simp only [aN];simp only [List.append_nil,List.append_assoc]
theorem run_queries (r:Nat)(h:r < 9)(w:World):Sem.run Tryz.prog (Instr.index 164 (.agg #[.string ⟨#[]⟩,.string ⟨#[109,117,115,116]⟩,.string ⟨#[109,97,121]⟩,.string ⟨#[99,111,117,110,116]⟩,.string ⟨#[98,111,117,110,100,115]⟩,.string ⟨#[118,97,108,117,101,115]⟩,.string ⟨#[119,104,121]⟩,.string ⟨#[98,108,97,109,101]⟩,.string ⟨#[108,111,111,107]⟩]) (.int .i64 r)) w=.ok (.string (aM (sg queriesG r))) w:=by
 obtain rfl | rfl | rfl | rfl | rfl | rfl | rfl | rfl | rfl:r=0∨r=1∨r=2∨r=3∨r=4∨r=5∨r=6∨r=7∨r=8:=by omega
 all_goals kernel_rfl
theorem pi_letI {wild:Bool}{g:Nat}{iv:Value}{w0 w:World}{s:abd}{xs:List NV}{nv lv:Value}{its:List Int}(H:Hid (abH g wild iv w s xs nv lv))(d:Hid (abK w0 w xs iv its))(hw:w0.heap.size≤w.heap.size)(hg:g < w0.heap.size)(hil:its.length≤1000)(hn:s.ns.length≤100000)(W:s.nx % 7=3) :
  Calls Tryz.prog 72 #[.pointer (some ⟨g,0,none⟩)] w (ItemPost g wild w0 w its (itemG wild s)):=by
 obtain⟨Ai,ci,N⟩:=dh d.o.row;subst N;obtain⟨j0,P,Q,S,T⟩:=info_parts gN;have Ql:=O fun (row:Option Nat) (w':World) (m:Mv g nv.ownBlock w row w')=>H.o.low m
 have M:=O (abJ.refl (g:=g) (w:=w) (xs:=xs) (nv:=nv));have HLT:=O (cB.lt d.o.row);obtain⟨E,n⟩:∃ E,Hid (acN wild 4=E):=⟨_,O rfl⟩;have X:=O (x4_is wild);rw [n.o] at X
 have hm7:Int.tmod (s.nx:Int) 7=3:=by rw [Int.tmod_eq_emod_of_nonneg (by omega)];omega
 have U:=O (show itemG0 wild s=letItemG wild (acM s.tl.nx) s.tl.tl by unfold itemG0;simp only;rw [if_neg (by omega),if_neg (by omega),if_neg (by omega),if_pos W]);have D:=O (show trailG s=[] from if_neg (fun h=>by omega));go_in
 go_wp2_with fail;refine (nxH H M).mono ?_;clear H M;rintro e w1⟨lv1,rfl,q1,H,M,R⟩
 replace d:=kp R d
 clear R;go_wp2_with fail;refine (nxH H M).mono ?_;clear H M;rintro e w2⟨lv2,rfl,q2,H,M,R⟩
 replace d:=kp R d
 clear R;go_wp2_with fail;refine (wdH (s.tl.nx) _).mono ?_;rintro e w3⟨x,rfl,Hx,lx,rfl⟩;rw [Hx.o] at U
 clear W;go_wp2_with fail;refine (exH H M X (by omega)).mono ?_;clear H M;rintro e w4⟨b,I,xs4,yH,lv4,rfl,fq,Ji,J,tl4,bn4,H,M,R⟩
 replace d:=kp R d
 clear R;have k:¬ 9223372036854775807 < 4+x.length:=by omega
 have l:¬ 9223372036854775807 < 4+x.length+1:=by omega
 go_wp2_with fail;refine (gpH H M).mono ?_;clear H M;rintro e w5⟨c,lv5,rfl,y,gl5,q5,H,M,R⟩
 replace d:=kp R d
 clear R;clear k l;have cq0:¬ 9223372036854775807 < 4+x.length:=by omega
 have cq1:¬ 9223372036854775807 < 4+x.length+1:=by omega
 have cq2:¬ 9223372036854775807 < 4+x.length+1+c.length:=by omega
 have cq3:¬ 9223372036854775807 < 4+x.length+1+c.length+I.length:=by omega
 go_wp2_with fail;obtain⟨Y,F⟩:∃ Y:Bs,Hid ([108,101,116,32] ++ x ++ [61] ++ c ++ I=Y):=⟨_,O rfl⟩;rw [show (⟨#[108,101,116,32]⟩:ByteArray) ++ aM (x) ++ (⟨#[61]⟩:ByteArray) ++ aM (c) ++ aM (I)=aM Y from by rw [← F.o] <;> (simp only [← ak];rfl)];have abT:Y.length≤10000000:=by rw [← F.o];simp only [aaO,List.length_cons,List.length_nil];omega
 refine (ptH H M [b.ix] (by simp) (by omega)).mono ?_;clear H M;rintro e w6⟨xs6,XB,rfl,H,M,R⟩
 replace d:=kp R d
 clear R
 have HF:=O (show letItemG wild x s.tl.tl=acV (([],3,[108,101,116]) :: ([32],1,x) :: sgn [61] :: Pcs.on c b.pc) (acJ wild (b.st)) ⟨43,x,0,[b.ix],0⟩ from by
  unfold letItemG
  try simp only
  rw [n.o,fq.o,y.o] <;> rfl)
 have q:aN (([],3,[108,101,116]) :: ([32],1,x) :: sgn [61] :: Pcs.on c b.pc) ++ trailG s=Y:=by
  rw [D.o,List.append_nil];simp only [aN,qZ,sgn];rw [J.o,← F.o] <;> simp only [List.nil_append,List.append_nil,List.append_assoc,List.cons_append]
 have A:=O q;clear q;obtain⟨id,qP⟩:∃ id,Hid (abd.id (acJ wild (b.st))=id):=⟨_,O rfl⟩;rw [qP.o];have j:=(d.o.alloc (.cells #[.int .i64 id] 3)).row;have C:=O j;have cI:=H.o.blk.cell 2;clear j;go_wp2_with (at_builtin;go_loud (refine wpList_append_lies _ rfl (.tmp 234) (.tmp 236) 24 rfl 0 3 j0 (.int .i64 0) 1 8 Tryz.underlying24 P Q S T rfl (by decide) _ its.length (intCells its) rfl C.o ⟨w6.heap.size,0,none⟩ 1 1 [.int .i64 id] rfl rfl (cell_one_new _ _ _) (by intro u Z;simp at Z;subst Z;rfl) (by omega) (by simp only [maxLen];omega) (by omega) (aaL _) _ rfl ?_);intro gg cap Tx i f r hlt;obtain⟨B,t,K,B9⟩:=itB H M rfl Ql d hw hg i f r;have c14:=B.cell 2;have f14:=B.frozen 2;clear i f r B)
 refine (plGap_any g wild _ _ ((acJ wild (b.st)).put ⟨43,x,0,[b.ix],0⟩) _ _ _ t.o).mono ?_;rintro e w99⟨rfl,lv99,h,m⟩;have H5:=O h;have L5:=O (K.o.mv t.o m);have B5:=O (B9.o.trans (t.o.low m));clear h m;have L:=gapG_len wild ((acJ wild (b.st)).put ⟨43,x,0,[b.ix],0⟩);obtain⟨G,V⟩:∃ G,Hid (acP wild ((acJ wild (b.st)).put ⟨43,x,0,[b.ix],0⟩)=G):=⟨_,O rfl⟩;rw [V.o] at L ⊢
 have cz0:¬ 9223372036854775807 < Y.length+G.length:=by omega
 have cz1:¬ 9223372036854775807 < Y.length+G.length+1:=by omega
 go_wp2_with fail;go_ret;exact itE (a:=acV (([],3,[108,101,116]) :: ([32],1,x) :: sgn [61] :: Pcs.on c b.pc) (acJ wild (b.st)) ⟨43,x,0,[b.ix],0⟩) (U.o.trans HF.o) A.o V.o qP.o (by first|(rw [← ak];rfl)|(rw [← ak,← ak];rfl)) H5.o L5.o B5.o
theorem pi_observe {wild:Bool}{g:Nat}{iv:Value}{w0 w:World}{s:abd}{xs:List NV}{nv lv:Value}{its:List Int}(H:Hid (abH g wild iv w s xs nv lv))(d:Hid (abK w0 w xs iv its))(hw:w0.heap.size≤w.heap.size)(hg:g < w0.heap.size)(hil:its.length≤1000)(hn:s.ns.length≤100000)(U:s.nx % 7=4) :
  Calls Tryz.prog 72 #[.pointer (some ⟨g,0,none⟩)] w (ItemPost g wild w0 w its (itemG wild s)):=by
 obtain⟨Ai,ci,K⟩:=dh d.o.row;subst K;obtain⟨j0,L,N,P,Q⟩:=info_parts gN;have Ql:=O fun (row:Option Nat) (w':World) (m:Mv g nv.ownBlock w row w')=>H.o.low m
 have M:=O (abJ.refl (g:=g) (w:=w) (xs:=xs) (nv:=nv));have HLT:=O (cB.lt d.o.row);obtain⟨E,l⟩:∃ E,Hid (acN wild 4=E):=⟨_,O rfl⟩;have X:=O (x4_is wild);rw [l.o] at X
 have hm7:Int.tmod (s.nx:Int) 7=4:=by rw [Int.tmod_eq_emod_of_nonneg (by omega)];omega
 have S:=O (show itemG0 wild s=observeG wild (acM s.tl.nx) s.tl.tl by unfold itemG0;simp only;rw [if_neg (by omega),if_neg (by omega),if_neg (by omega),if_neg (by omega),if_pos U]);have C:=O (show trailG s=[] from if_neg (fun h=>by omega));go_in
 go_wp2_with fail;refine (nxH H M).mono ?_;clear H M;rintro e w1⟨lv1,rfl,q1,H,M,R⟩
 replace d:=kp R d
 clear R;go_wp2_with fail;refine (nxH H M).mono ?_;clear H M;rintro e w2⟨lv2,rfl,q2,H,M,R⟩
 replace d:=kp R d
 clear R;go_wp2_with fail;refine (wdH (s.tl.nx) _).mono ?_;rintro e w3⟨x,rfl,Hx,lx,rfl⟩;rw [Hx.o] at S
 clear U;go_wp2_with fail;refine (exH H M X (by omega)).mono ?_;clear H M;rintro e w4⟨c,F,xs4,yH,lv4,rfl,fq,Ji,acn,tl4,bn4,H,M,R⟩
 replace d:=kp R d
 clear R;have k:¬ 9223372036854775807 < 8+x.length:=by omega
 go_wp2_with fail;refine (gpH H M).mono ?_;clear H M;rintro e w5⟨b,lv5,rfl,t,gl5,q5,H,M,R⟩
 replace d:=kp R d
 clear R;clear k;have cq0:¬ 9223372036854775807 < 8+x.length:=by omega
 have cq1:¬ 9223372036854775807 < 8+x.length+b.length:=by omega
 have cq2:¬ 9223372036854775807 < 8+x.length+b.length+1:=by omega
 have cq3:¬ 9223372036854775807 < 8+x.length+b.length+1+F.length:=by omega
 go_wp2_with fail;obtain⟨Y,D⟩:∃ Y:Bs,Hid ([111,98,115,101,114,118,101,32] ++ x ++ b ++ [58] ++ F=Y):=⟨_,O rfl⟩;rw [show (⟨#[111,98,115,101,114,118,101,32]⟩:ByteArray) ++ aM (x) ++ aM (b) ++ (⟨#[58]⟩:ByteArray) ++ aM (F)=aM Y from by rw [← D.o] <;> (simp only [← ak];rfl)];have abT:Y.length≤10000000:=by rw [← D.o];simp only [aaO,List.length_cons,List.length_nil];omega
 refine (ptH H M [c.ix] (by simp) (by omega)).mono ?_;clear H M;rintro e w6⟨xs6,XB,rfl,H,M,R⟩
 replace d:=kp R d
 clear R
 have HF:=O (show observeG wild x s.tl.tl=acV (([],3,[111,98,115,101,114,118,101]) :: ([32],1,x) :: (b,4,[58]) :: c.pc) (acJ wild (c.st)) ⟨44,x,0,[c.ix],0⟩ from by
  unfold observeG
  try simp only
  rw [l.o,fq.o,t.o] <;> rfl)
 have n:aN (([],3,[111,98,115,101,114,118,101]) :: ([32],1,x) :: (b,4,[58]) :: c.pc) ++ trailG s=Y:=by
  rw [C.o,List.append_nil];simp only [aN,qZ,sgn];rw [Ji.o,← D.o] <;> simp only [List.nil_append,List.append_nil,List.append_assoc,List.cons_append]
 have y:=O n;clear n;obtain⟨id,Z⟩:∃ id,Hid (abd.id (acJ wild (c.st))=id):=⟨_,O rfl⟩;rw [Z.o];have j:=(d.o.alloc (.cells #[.int .i64 id] 3)).row;have B:=O j;have cI:=H.o.blk.cell 2;clear j;go_wp2_with (at_builtin;go_loud (refine wpList_append_lies _ rfl (.tmp 234) (.tmp 236) 24 rfl 0 3 j0 (.int .i64 0) 1 8 Tryz.underlying24 L N P Q rfl (by decide) _ its.length (intCells its) rfl B.o ⟨w6.heap.size,0,none⟩ 1 1 [.int .i64 id] rfl rfl (cell_one_new _ _ _) (by intro u V;simp at V;subst V;rfl) (by omega) (by simp only [maxLen];omega) (by omega) (aaL _) _ rfl ?_);intro gg cap Tx i f q hlt;obtain⟨A,r,I,B9⟩:=itB H M rfl Ql d hw hg i f q;have c14:=A.cell 2;have f14:=A.frozen 2;clear i f q A)
 refine (plGap_any g wild _ _ ((acJ wild (c.st)).put ⟨44,x,0,[c.ix],0⟩) _ _ _ r.o).mono ?_;rintro e w99⟨rfl,W,h,m⟩;have H5:=O h;have L5:=O (I.o.mv r.o m);have B5:=O (B9.o.trans (r.o.low m));clear h m;have J:=gapG_len wild ((acJ wild (c.st)).put ⟨44,x,0,[c.ix],0⟩);obtain⟨G,T⟩:∃ G,Hid (acP wild ((acJ wild (c.st)).put ⟨44,x,0,[c.ix],0⟩)=G):=⟨_,O rfl⟩;rw [T.o] at J ⊢
 have cz0:¬ 9223372036854775807 < Y.length+G.length:=by omega
 have cz1:¬ 9223372036854775807 < Y.length+G.length+1:=by omega
 go_wp2_with fail;go_ret;exact itE (a:=acV (([],3,[111,98,115,101,114,118,101]) :: ([32],1,x) :: (b,4,[58]) :: c.pc) (acJ wild (c.st)) ⟨44,x,0,[c.ix],0⟩) (S.o.trans HF.o) y.o T.o Z.o (by first|(rw [← ak];rfl)|(rw [← ak,← ak];rfl)) H5.o L5.o B5.o
theorem pi_retract {wild:Bool}{g:Nat}{iv:Value}{w0 w:World}{s:abd}{xs:List NV}{nv lv:Value}{its:List Int}(H:Hid (abH g wild iv w s xs nv lv))(b:Hid (abK w0 w xs iv its))(hw:w0.heap.size≤w.heap.size)(hg:g < w0.heap.size)(hil:its.length≤1000)(hn:s.ns.length≤100000)(L:s.nx % 7=5) :
  Calls Tryz.prog 72 #[.pointer (some ⟨g,0,none⟩)] w (ItemPost g wild w0 w its (itemG wild s)):=by
 obtain⟨Ai,ci,C⟩:=dh b.o.row;subst C;obtain⟨j0,D,E,F,I⟩:=info_parts gN;have Ql:=O fun (row:Option Nat) (w':World) (m:Mv g nv.ownBlock w row w')=>H.o.low m
 have M:=O (abJ.refl (g:=g) (w:=w) (xs:=xs) (nv:=nv));have W:=O (cB.lt b.o.row);have hm7:Int.tmod (s.nx:Int) 7=5:=by rw [Int.tmod_eq_emod_of_nonneg (by omega)];omega
 have J:=O (show itemG0 wild s=retractG wild (acM s.tl.nx) s.tl.tl by unfold itemG0;simp only;rw [if_neg (by omega),if_neg (by omega),if_neg (by omega),if_neg (by omega),if_neg (by omega),if_pos L]);have t:=O (show trailG s=[] from if_neg (fun h=>by omega));go_in
 go_wp2_with fail;refine (nxH H M).mono ?_;clear H M;rintro e w1⟨lv1,rfl,q1,H,M,R⟩
 replace b:=kp R b
 clear R;go_wp2_with fail;refine (nxH H M).mono ?_;clear H M;rintro e w2⟨lv2,rfl,q2,H,M,R⟩
 replace b:=kp R b
 clear R;go_wp2_with fail;refine (wdH (s.tl.nx) _).mono ?_;rintro e w3⟨x,rfl,X,lx,rfl⟩;rw [X.o] at J
 clear L;go_wp2_with fail;refine (gpH H M).mono ?_;clear H M;rintro e w4⟨i,lv4,rfl,Z,gl4,q4,H,M,R⟩
 replace b:=kp R b
 clear R;have cq0:¬ 9223372036854775807 < 7+i.length:=by omega
 have cq1:¬ 9223372036854775807 < 7+i.length+x.length:=by omega
 go_wp2_with fail;obtain⟨Y,y⟩:∃ Y:Bs,Hid ([114,101,116,114,97,99,116] ++ i ++ x=Y):=⟨_,O rfl⟩;rw [show (⟨#[114,101,116,114,97,99,116]⟩:ByteArray) ++ aM (i) ++ aM (x)=aM Y from by rw [← y.o] <;> (simp only [← ak];rfl)];have abT:Y.length≤10000000:=by rw [← y.o];simp only [aaO,List.length_cons,List.length_nil];omega
 refine (ptN H M (by omega)).mono ?_;clear H M;rintro e w5⟨xs5,Fu,rfl,H,M,R⟩
 replace b:=kp R b
 clear R
 have V:=O (show retractG wild x s.tl.tl=acV [([],3,[114,101,116,114,97,99,116]),(i,1,x)] (acJ wild (s.tl.tl)) ⟨45,x,0,[],0⟩ from by
  unfold retractG
  try simp only
  rw [Z.o] <;> rfl)
 have j:aN [([],3,[114,101,116,114,97,99,116]),(i,1,x)] ++ trailG s=Y:=by
  rw [t.o,List.append_nil];simp only [aN,qZ,sgn];rw [← y.o] <;> simp only [List.nil_append,List.append_nil,List.append_assoc,List.cons_append]
 have n:=O j;clear j;obtain⟨id,Q⟩:∃ id,Hid (abd.id (acJ wild (s.tl.tl))=id):=⟨_,O rfl⟩;rw [Q.o];have f:=(b.o.alloc (.cells #[.int .i64 id] 3)).row;have r:=O f;have cI:=H.o.blk.cell 2;clear f;go_wp2_with (at_builtin;go_loud (refine wpList_append_lies _ rfl (.tmp 234) (.tmp 236) 24 rfl 0 3 j0 (.int .i64 0) 1 8 Tryz.underlying24 D E F I rfl (by decide) _ its.length (intCells its) rfl r.o ⟨w5.heap.size,0,none⟩ 1 1 [.int .i64 id] rfl rfl (cell_one_new _ _ _) (by intro u N;simp at N;subst N;rfl) (by omega) (by simp only [maxLen];omega) (by omega) (aaL _) _ rfl ?_);intro gg cap Tx d c k hlt;obtain⟨q,l,A,T⟩:=itB H M rfl Ql b hw hg d c k;have c14:=q.cell 2;have f14:=q.frozen 2;clear d c k q)
 refine (plGap_any g wild _ _ ((acJ wild (s.tl.tl)).put ⟨45,x,0,[],0⟩) _ _ _ l.o).mono ?_;rintro e w99⟨rfl,P,h,m⟩;have U:=O h;have L5:=O (A.o.mv l.o m);have S:=O (T.o.trans (l.o.low m));clear h m;have B:=gapG_len wild ((acJ wild (s.tl.tl)).put ⟨45,x,0,[],0⟩);obtain⟨G,K⟩:∃ G,Hid (acP wild ((acJ wild (s.tl.tl)).put ⟨45,x,0,[],0⟩)=G):=⟨_,O rfl⟩;rw [K.o] at B ⊢
 have cz0:¬ 9223372036854775807 < Y.length+G.length:=by omega
 have cz1:¬ 9223372036854775807 < Y.length+G.length+1:=by omega
 go_wp2_with fail;go_ret;exact itE (a:=acV [([],3,[114,101,116,114,97,99,116]),(i,1,x)] (acJ wild (s.tl.tl)) ⟨45,x,0,[],0⟩) (J.o.trans V.o) n.o K.o Q.o (by first|(rw [← ak];rfl)|(rw [← ak,← ak];rfl)) U.o L5.o S.o
theorem pi_choose {wild:Bool}{g:Nat}{iv:Value}{w0 w:World}{s:abd}{xs:List NV}{nv lv:Value}{its:List Int}(H:Hid (abH g wild iv w s xs nv lv))(c:Hid (abK w0 w xs iv its))(hw:w0.heap.size≤w.heap.size)(hg:g < w0.heap.size)(hil:its.length≤1000)(hn:s.ns.length≤100000)(hb:s.nx % 7=0) :
  Calls Tryz.prog 72 #[.pointer (some ⟨g,0,none⟩)] w (ItemPost g wild w0 w its (itemG wild s)):=by
 obtain⟨Ai,ci,hiv⟩:=dh c.o.row;subst hiv;obtain⟨j0,hj0,hy0,hy1,hy2⟩:=info_parts gN;have Ql:=O fun (row:Option Nat) (w':World) (m:Mv g nv.ownBlock w row w')=>H.o.low m
 have M:=O (abJ.refl (g:=g) (w:=w) (xs:=xs) (nv:=nv));have HLT:=O (cB.lt c.o.row);have hm7:Int.tmod (s.nx:Int) 7=0:=by rw [Int.tmod_eq_emod_of_nonneg (by omega)];omega
 have HB:=O (show itemG0 wild s=chooseG wild (acM s.tl.nx) s.tl.tl by unfold itemG0;simp only;rw [if_pos hb]);have HTR:=O (show trailG s=[] from if_neg (fun h=>by omega));go_in
 go_wp2_with fail;refine (nxH H M).mono ?_;clear H M;rintro e w1⟨lv1,rfl,q1,H,M,R⟩
 replace c:=kp R c
 clear R;go_wp2_with fail;refine (nxH H M).mono ?_;clear H M;rintro e w2⟨lv2,rfl,q2,H,M,R⟩
 replace c:=kp R c
 clear R;go_wp2_with fail;refine (wdH (s.tl.nx) _).mono ?_;rintro e w3⟨x,rfl,Hx,lx,rfl⟩;rw [Hx.o] at HB
 clear hb;obtain⟨q,hq⟩:∃ m,m=(s.tl.tl).nx % 30:=⟨_,rfl⟩;have zq:Int.tmod ((s.tl.tl).nx:Int) 30=(q:Int):=by rw [Int.tmod_eq_emod_of_nonneg (by omega),hq];omega
 have acu:=O hq.symm;have acy:q≤29:=by omega
 clear hq;obtain⟨low,r⟩:∃ low:Int,low=(q:Int) - 15:=⟨_,rfl⟩;have ab4:IntKind.i64.wrap ((q:Int) - 15)=low:=by rw [IntWalk.i64_in _ (by omega),r]
 have Bu:=O r.symm;have hl1:-15≤low:=by omega
 have hl2:low≤14:=by omega
 clear r;go_wp2_with fail;refine (nxH H M).mono ?_;clear H M;rintro e w4⟨lv4,rfl,q4,H,M,R⟩
 replace c:=kp R c
 clear R;go_wp2_with fail;refine (nbH H M (n:=low) (by omega) (by omega) (by omega)).mono ?_;clear H M;rintro e w5⟨k,j,xs5,Fu,lv5,rfl,jX,zO,aco,tl5,bn5,H,M,R⟩
 replace c:=kp R c
 clear R;obtain⟨p,hp⟩:∃ m,m=(k.st).nx % 12:=⟨_,rfl⟩;have zp:Int.tmod ((k.st).nx:Int) 12=(p:Int):=by rw [Int.tmod_eq_emod_of_nonneg (by omega),hp];omega
 have Hp:=O hp.symm;have bp:p≤11:=by omega
 clear hp;have zl2:IntKind.i64.wrap (low+(p:Int))=low+(p:Int):=IntWalk.i64_in _ (by omega);go_wp2_with fail;refine (nxH H M).mono ?_;clear H M;rintro e w6⟨lv6,rfl,q6,H,M,R⟩
 replace c:=kp R c
 clear R;go_wp2_with fail;refine (nbH H M (n:=low+(p:Int)) (by omega) (by omega) (by omega)).mono ?_;clear H M;rintro e w7⟨i,T7,xs7,nv7,lv7,rfl,o9,HT7,acw,tl7,bn7,H,M,R⟩
 replace c:=kp R c
 clear R;have A:¬ 9223372036854775807 < 7+x.length:=by omega
 have B:¬ 9223372036854775807 < 7+x.length+1:=by omega
 go_wp2_with fail;refine (gpH H M).mono ?_;clear H M;rintro e w8⟨b,lv8,rfl,W,gl8,q8,H,M,R⟩
 replace c:=kp R c
 clear R;clear A B;have C:¬ 9223372036854775807 < 7+x.length:=by omega
 have D:¬ 9223372036854775807 < 7+x.length+1:=by omega
 have E:¬ 9223372036854775807 < 7+x.length+1+b.length:=by omega
 have F:¬ 9223372036854775807 < 7+x.length+1+b.length+j.length:=by omega
 go_wp2_with fail;refine (gpH H M).mono ?_;clear H M;rintro e w9⟨d,lv9,rfl,X,T,acs,H,M,R⟩
 replace c:=kp R c
 clear R;clear C D E F;have I:¬ 9223372036854775807 < 7+x.length:=by omega
 have J:¬ 9223372036854775807 < 7+x.length+1:=by omega
 have K:¬ 9223372036854775807 < 7+x.length+1+b.length:=by omega
 have L:¬ 9223372036854775807 < 7+x.length+1+b.length+j.length:=by omega
 have N:¬ 9223372036854775807 < 7+x.length+1+b.length+j.length+d.length:=by omega
 have P:¬ 9223372036854775807 < 7+x.length+1+b.length+j.length+d.length+2:=by omega
 go_wp2_with fail;refine (gpH H M).mono ?_;clear H M;rintro e Qv⟨f,lv10,rfl,Q,gl10,q10,H,M,R⟩
 replace c:=kp R c
 clear R;clear I J K L N P;have cq0:¬ 9223372036854775807 < 7+x.length:=by omega
 have cq1:¬ 9223372036854775807 < 7+x.length+1:=by omega
 have cq2:¬ 9223372036854775807 < 7+x.length+1+b.length:=by omega
 have cq3:¬ 9223372036854775807 < 7+x.length+1+b.length+j.length:=by omega
 have cq4:¬ 9223372036854775807 < 7+x.length+1+b.length+j.length+d.length:=by omega
 have cq5:¬ 9223372036854775807 < 7+x.length+1+b.length+j.length+d.length+2:=by omega
 have cq6:¬ 9223372036854775807 < 7+x.length+1+b.length+j.length+d.length+2+f.length:=by omega
 have cq7:¬ 9223372036854775807 < 7+x.length+1+b.length+j.length+d.length+2+f.length+T7.length:=by omega
 go_wp2_with fail;obtain⟨Y,HY⟩:∃ Y:Bs,Hid ([99,104,111,111,115,101,32] ++ x ++ [58] ++ b ++ j ++ d ++ [46,46] ++ f ++ T7=Y):=⟨_,O rfl⟩;rw [show (⟨#[99,104,111,111,115,101,32]⟩:ByteArray) ++ aM (x) ++ (⟨#[58]⟩:ByteArray) ++ aM (b) ++ aM (j) ++ aM (d) ++ (⟨#[46,46]⟩:ByteArray) ++ aM (f) ++ aM (T7)=aM Y from by rw [← HY.o] <;> (simp only [← ak];rfl)];have abT:Y.length≤10000000:=by rw [← HY.o];simp only [aaO,List.length_cons,List.length_nil];omega
 refine (ptH H M [k.ix,i.ix] (by simp) (by omega)).mono ?_;clear H M;rintro e Et⟨xs11,nv11,rfl,H,M,R⟩
 replace c:=kp R c
 clear R
 have HF:=O (show chooseG wild x s.tl.tl=acV (([],3,[99,104,111,111,115,101]) :: ([32],1,x) :: sgn [58] :: (Pcs.on b k.pc ++ (d,4,[46,46]) :: Pcs.on f i.pc)) (acJ wild (acJ wild (acJ wild (i.st)))) ⟨40,x,0,[k.ix,i.ix],0⟩ from by
  unfold chooseG
  try simp only
  rw [acu.o,Bu.o,jX.o,Hp.o,o9.o,W.o,X.o,Q.o] <;> rfl)
 have S:aN (([],3,[99,104,111,111,115,101]) :: ([32],1,x) :: sgn [58] :: (Pcs.on b k.pc ++ (d,4,[46,46]) :: Pcs.on f i.pc)) ++ trailG s=Y:=by
  rw [HTR.o,List.append_nil];simp only [aN,qZ,sgn];rw [aco.o,acw.o,← HY.o] <;> simp only [List.nil_append,List.append_nil,List.append_assoc,List.cons_append]
 have Z:=O S;clear S;obtain⟨id,qP⟩:∃ id,Hid (abd.id (acJ wild (acJ wild (acJ wild (i.st))))=id):=⟨_,O rfl⟩;rw [qP.o];have y:=(c.o.alloc (.cells #[.int .i64 id] 3)).row;have HRW:=O y;have cI:=H.o.blk.cell 2;clear y;go_wp2_with (at_builtin;go_loud (refine wpList_append_lies _ rfl (.tmp 234) (.tmp 236) 24 rfl 0 3 j0 (.int .i64 0) 1 8 Tryz.underlying24 hj0 hy0 hy1 hy2 rfl (by decide) _ its.length (intCells its) rfl HRW.o ⟨Et.heap.size,0,none⟩ 1 1 [.int .i64 id] rfl rfl (cell_one_new _ _ _) (by intro u hu;simp at hu;subst hu;rfl) (by omega) (by simp only [maxLen];omega) (by omega) (aaL _) _ rfl ?_);intro gg cap Tx t l U hlt;obtain⟨HK,V,acv,B9⟩:=itB H M rfl Ql c hw hg t l U;have c14:=HK.cell 2;have f14:=HK.frozen 2;clear t l U HK)
 refine (plGap_any g wild _ _ ((acJ wild (acJ wild (acJ wild (i.st)))).put ⟨40,x,0,[k.ix,i.ix],0⟩) _ _ _ V.o).mono ?_;rintro e w99⟨rfl,lv99,h,m⟩;have H5:=O h;have L5:=O (acv.o.mv V.o m);have B5:=O (B9.o.trans (V.o.low m));clear h m;have T:=gapG_len wild ((acJ wild (acJ wild (acJ wild (i.st)))).put ⟨40,x,0,[k.ix,i.ix],0⟩);obtain⟨G,HG⟩:∃ G,Hid (acP wild ((acJ wild (acJ wild (acJ wild (i.st)))).put ⟨40,x,0,[k.ix,i.ix],0⟩)=G):=⟨_,O rfl⟩;rw [HG.o] at T ⊢
 have cz0:¬ 9223372036854775807 < Y.length+G.length:=by omega
 have cz1:¬ 9223372036854775807 < Y.length+G.length+1:=by omega
 go_wp2_with fail;go_ret;exact itE (a:=acV (([],3,[99,104,111,111,115,101]) :: ([32],1,x) :: sgn [58] :: (Pcs.on b k.pc ++ (d,4,[46,46]) :: Pcs.on f i.pc)) (acJ wild (acJ wild (acJ wild (i.st)))) ⟨40,x,0,[k.ix,i.ix],0⟩) (HB.o.trans HF.o) Z.o HG.o qP.o (by first|(rw [← ak];rfl)|(rw [← ak,← ak];rfl)) H5.o L5.o B5.o
theorem pi_type {wild:Bool}{g:Nat}{iv:Value}{w0 w:World}{s:abd}{xs:List NV}{nv lv:Value}{its:List Int}(H:Hid (abH g wild iv w s xs nv lv))(b:Hid (abK w0 w xs iv its))(hw:w0.heap.size≤w.heap.size)(hg:g < w0.heap.size)(hil:its.length≤1000)(hn:s.ns.length≤100000)(T:s.nx % 7=1) :
  Calls Tryz.prog 72 #[.pointer (some ⟨g,0,none⟩)] w (ItemPost g wild w0 w its (itemG wild s)):=by
 obtain⟨Ai,ci,J⟩:=dh b.o.row;subst J;obtain⟨j0,K,L,N,P⟩:=info_parts gN;have Ql:=O fun (row:Option Nat) (w':World) (m:Mv g nv.ownBlock w row w')=>H.o.low m
 have M:=O (abJ.refl (g:=g) (w:=w) (xs:=xs) (nv:=nv));have A:=O (cB.lt b.o.row);have hm7:Int.tmod (s.nx:Int) 7=1:=by rw [Int.tmod_eq_emod_of_nonneg (by omega)];omega
 have Q:=O (show itemG0 wild s=typeG wild (acM s.tl.nx) s.tl.tl by unfold itemG0;simp only;rw [if_neg (by omega),if_pos T]);have C:=O (show trailG s=[] from if_neg (fun h=>by omega));go_in
 go_wp2_with fail;refine (nxH H M).mono ?_;clear H M;rintro e w1⟨lv1,rfl,q1,H,M,R⟩
 replace b:=kp R b
 clear R;go_wp2_with fail;refine (nxH H M).mono ?_;clear H M;rintro e w2⟨lv2,rfl,q2,H,M,R⟩
 replace b:=kp R b
 clear R;go_wp2_with fail;refine (wdH (s.tl.nx) _).mono ?_;rintro e w3⟨x,rfl,Hx,lx,rfl⟩;rw [Hx.o] at Q
 clear T;obtain⟨n,j⟩:∃ m,m=(s.tl.tl).nx % 6:=⟨_,rfl⟩;have zm6:Int.tmod ((s.tl.tl).nx:Int) 6=(n:Int):=by rw [Int.tmod_eq_emod_of_nonneg (by omega),j];omega
 have E:=O j.symm;have bm6:n≤5:=by omega
 clear j;have ym6:IntKind.i64.wrap (1+(n:Int))=((1+n:Nat):Int):=by rw [IntWalk.i64_in _ (by omega)];omega
 go_wp2_with fail;refine (nxH H M).mono ?_;clear H M;rintro e w4⟨lv4,rfl,q4,H,M,R⟩
 replace b:=kp R b
 clear R;go_wp2_with fail;refine (prH H M (m:=1+n) (by omega) (by omega)).mono ?_;clear H M;rintro e w5⟨c,q,A5,c5,xs5,Fu,lv5,rfl,jX,zO,tl5,bn5,U,LL,H,M,R⟩
 replace b:=kp R b
 clear R;have cq0:¬ 9223372036854775807 < 5+x.length:=by omega
 have cq1:¬ 9223372036854775807 < 5+x.length+2:=by omega
 have cq2:¬ 9223372036854775807 < 5+x.length+2+q.length:=by omega
 have cq3:¬ 9223372036854775807 < 5+x.length+2+q.length+1:=by omega
 go_wp2_with fail;obtain⟨Y,D⟩:∃ Y:Bs,Hid ([116,121,112,101,32] ++ x ++ [61,123] ++ q ++ [125]=Y):=⟨_,O rfl⟩;rw [show (⟨#[116,121,112,101,32]⟩:ByteArray) ++ aM (x) ++ (⟨#[61,123]⟩:ByteArray) ++ aM (q) ++ (⟨#[125]⟩:ByteArray)=aM Y from by rw [← D.o] <;> (simp only [← ak];rfl)];have abT:Y.length≤10000000:=by rw [← D.o];simp only [aaO,List.length_cons,List.length_nil];omega
 refine (ptL H M LL (by omega)).mono ?_;clear H M;rintro e w6⟨xs6,XB,rfl,H,M,R⟩
 replace b:=O (R.o _ _ _ A.o b.o)
 clear R
 have HF:=O (show typeG wild x s.tl.tl=acV (([],3,[116,121,112,101]) :: ([32],1,x) :: sgn [61] :: sgn [123] :: (c.pc ++ [sgn [125]])) (c.st) ⟨41,x,0,c.ix,0⟩ from by
  unfold typeG
  try simp only
  rw [E.o,jX.o] <;> rfl)
 have k:aN (([],3,[116,121,112,101]) :: ([32],1,x) :: sgn [61] :: sgn [123] :: (c.pc ++ [sgn [125]])) ++ trailG s=Y:=by
  rw [C.o,List.append_nil];simp only [aN,qZ,sgn];rw [zO.o,← D.o] <;> simp only [List.nil_append,List.append_nil,List.append_assoc,List.cons_append]
 have t:=O k;clear k;obtain⟨id,X⟩:∃ id,Hid (abd.id (c.st)=id):=⟨_,O rfl⟩;rw [X.o];have i:=(b.o.alloc (.cells #[.int .i64 id] 3)).row;have B:=O i;have cI:=H.o.blk.cell 2;clear i;go_wp2_with (at_builtin;go_loud (refine wpList_append_lies _ rfl (.tmp 234) (.tmp 236) 24 rfl 0 3 j0 (.int .i64 0) 1 8 Tryz.underlying24 K L N P rfl (by decide) _ its.length (intCells its) rfl B.o ⟨w6.heap.size,0,none⟩ 1 1 [.int .i64 id] rfl rfl (cell_one_new _ _ _) (by intro u V;simp at V;subst V;rfl) (by omega) (by simp only [maxLen];omega) (by omega) (aaL _) _ rfl ?_);intro gg cap Tx f d l hlt;obtain⟨y,r,F,B9⟩:=itB H M rfl Ql b hw hg f d l;have c14:=y.cell 2;have f14:=y.frozen 2;clear f d l y)
 refine (plGap_any g wild _ _ ((c.st).put ⟨41,x,0,c.ix,0⟩) _ _ _ r.o).mono ?_;rintro e w99⟨rfl,W,h,m⟩;have H5:=O h;have L5:=O (F.o.mv r.o m);have Z:=O (B9.o.trans (r.o.low m));clear h m;have I:=gapG_len wild ((c.st).put ⟨41,x,0,c.ix,0⟩);obtain⟨G,S⟩:∃ G,Hid (acP wild ((c.st).put ⟨41,x,0,c.ix,0⟩)=G):=⟨_,O rfl⟩;rw [S.o] at I ⊢
 have cz0:¬ 9223372036854775807 < Y.length+G.length:=by omega
 have cz1:¬ 9223372036854775807 < Y.length+G.length+1:=by omega
 go_wp2_with fail;go_ret;exact itE (a:=acV (([],3,[116,121,112,101]) :: ([32],1,x) :: sgn [61] :: sgn [123] :: (c.pc ++ [sgn [125]])) (c.st) ⟨41,x,0,c.ix,0⟩) (Q.o.trans HF.o) t.o S.o X.o (by first|(rw [← ak];rfl)|(rw [← ak,← ak];rfl)) H5.o L5.o Z.o
def APost (g:Nat)(wild:Bool)(iv:Value)(w:World)(xs:List NV)(nv:Value)(q:Nat)(r:abb)(e:Ending)(w':World):Prop :=
 e=.returned (.tuple #[.string (aM (aN r.pc ++ (if q=7 then [32] else []))),.int .i64 r.ix])∧∃ xs' eO lv',abH g wild iv w' r.st xs' eO lv'∧abJ g w xs nv w' xs' eO
theorem pa_blame {wild:Bool}{q:Nat}(L:1≤q)(N:q≤8)(t:q=7){g:Nat}{iv:Value}{w:World}{s:abd}{xs:List NV}{nv lv:Value}(H:Hid (abH g wild iv w s xs nv lv))(hn:s.ns.length≤600000) :
  Calls Tryz.prog 118 #[.pointer (some ⟨g,0,none⟩),.int .i64 (q:Int)] w (APost g wild iv w xs nv q (askG wild q s)):=by
 have M:=O (abJ.refl (g:=g) (w:=w) (xs:=xs) (nv:=nv));have X:=O (x3_is wild);have r:=O (l3_is wild);subst t;have b:=run_queries 7 (by omega);rw [show ((7:Nat):Int)=7 from rfl] at b
 have n:=query_le 7 (by omega);obtain⟨a,d⟩:∃ a,Hid (sg queriesG 7=a):=⟨_,O rfl⟩;rw [d.o] at b n
 have T:(0:Int)≤((7:Nat):Int):=by omega
 have U:((7:Nat):Int) < 9:=by omega
 go_in
 go_wp2_with fail;refine (lsH H M X r (m:=0) (by omega) (by omega)).mono ?_;clear H M;rintro e w1⟨r1,l,V,c1,xs1,gW,P,rfl,f,i,D,B,S,E,k,H,M,-⟩;go_wp2_with fail;refine (gpH H M).mono ?_;clear H M;rintro e w2⟨c,Q,rfl,h,K,q2,H,M,R⟩
 replace k:=kp R k
 clear R;have F:¬ 9223372036854775807 < 3+c.length:=by omega
 have G:¬ 9223372036854775807 < 3+c.length+a.length:=by omega
 have I:¬ 9223372036854775807 < 3+c.length+a.length+1:=by omega
 have J:¬ 9223372036854775807 < 3+c.length+a.length+1+l.length:=by omega
 go_wp2_with fail;obtain⟨Y,j⟩:∃ Y:Bs,Hid ([97,115,107] ++ c ++ a ++ [32] ++ l=Y):=⟨_,O rfl⟩;rw [show (⟨#[97,115,107]⟩:ByteArray) ++ aM (c) ++ aM (a) ++ (⟨#[32]⟩:ByteArray) ++ aM (l)=aM Y from by rw [← j.o] <;> (simp only [← ak];rfl)];have C:Y.length≤10000000:=by rw [← j.o];simp only [aaO,List.length_cons,List.length_nil];omega
 refine (ptL H M k (by omega)).mono ?_;clear H M;rintro e w3⟨Z,W,rfl,H,M,-⟩;go_wp2_with fail;go_ret2
 have y:=O (show askG wild 7 s=acV (([],3,[97,115,107]) :: (c,3,a) :: Pcs.on [32] r1.pc) (acJ wild (r1.st)) ⟨46,[],((7:Nat):Int),r1.ix,0⟩ from by
  unfold askG;simp only [↓reduceIte,Nat.reduceEqDiff];rw [f.o,d.o,h.o] <;> rfl)
 rw [y.o]
 refine⟨?_,_,_,_,H.o,M.o⟩
 show _=Ending.returned (.tuple #[.string (aM (aN (([],3,[97,115,107]) :: (c,3,a) :: Pcs.on [32] r1.pc) ++ _)),.int .i64 (acJ wild (r1.st)).id])
 have A:aN (([],3,[97,115,107]) :: (c,3,a) :: Pcs.on [32] r1.pc) ++ (if 7=7 then [32] else [])=Y:=by
  have x:=i.o;rw [B.o (by first | rfl | trivial)] at x ⊢
  rw [if_pos rfl,← j.o,← x];simp only [aN,Pcs.on];simp only [List.nil_append,List.append_nil,List.append_assoc,List.cons_append]
 rw [A];rfl
theorem pa_look {wild:Bool}{q:Nat}(P:1≤q)(Q:q≤8)(y:q=8){g:Nat}{iv:Value}{w:World}{s:abd}{xs:List NV}{nv lv:Value}(H:Hid (abH g wild iv w s xs nv lv))(hn:s.ns.length≤600000) :
  Calls Tryz.prog 118 #[.pointer (some ⟨g,0,none⟩),.int .i64 (q:Int)] w (APost g wild iv w xs nv q (askG wild q s)):=by
 have M:=O (abJ.refl (g:=g) (w:=w) (xs:=xs) (nv:=nv));have X:=O (x3_is wild);have x:=O (l3_is wild);subst y;obtain⟨h,d⟩:∃ m,m=(s).nx % 4:=⟨_,rfl⟩;have zm4:Int.tmod ((s).nx:Int) 4=(h:Int):=by rw [Int.tmod_eq_emod_of_nonneg (by omega),d];omega
 have l:=O d.symm;have F:h≤3:=by omega
 clear d;have ym4:IntKind.i64.wrap (1+(h:Int))=((1+h:Nat):Int):=by rw [IntWalk.i64_in _ (by omega)];omega
 have b:=run_queries 8 (by omega);rw [show ((8:Nat):Int)=8 from rfl] at b
 have t:=query_le 8 (by omega);obtain⟨a,f⟩:∃ a,Hid (sg queriesG 8=a):=⟨_,O rfl⟩;rw [f.o] at b t
 have zk0:(0:Int)≤((8:Nat):Int):=by omega
 have zk1:((8:Nat):Int) < 9:=by omega
 go_in
 go_wp2_with fail;refine (nxH H M).mono ?_;clear H M;rintro e w1⟨S,rfl,q1,H,M,-⟩;go_wp2_with fail;refine (lsH H M X x (m:=1+h) (by omega) (by omega)).mono ?_;clear H M;rintro e w2⟨r2,r,A2,c2,W,Qu,T,rfl,i,C,D,Z2,V,G,n,H,M,-⟩;go_wp2_with fail;refine (gpH H M).mono ?_;clear H M;rintro e w3⟨c,U,rfl,j,N,q3,H,M,R⟩
 replace n:=kp R n
 clear R;have I:¬ 9223372036854775807 < 3+c.length:=by omega
 have J:¬ 9223372036854775807 < 3+c.length+a.length:=by omega
 have K:¬ 9223372036854775807 < 3+c.length+a.length+1:=by omega
 have L:¬ 9223372036854775807 < 3+c.length+a.length+1+r.length:=by omega
 go_wp2_with fail;obtain⟨Y,k⟩:∃ Y:Bs,Hid ([97,115,107] ++ c ++ a ++ [32] ++ r=Y):=⟨_,O rfl⟩;rw [show (⟨#[97,115,107]⟩:ByteArray) ++ aM (c) ++ aM (a) ++ (⟨#[32]⟩:ByteArray) ++ aM (r)=aM Y from by rw [← k.o] <;> (simp only [← ak];rfl)];have E:Y.length≤10000000:=by rw [← k.o];simp only [aaO,List.length_cons,List.length_nil];omega
 refine (ptL H M n (by omega)).mono ?_;clear H M;rintro e w4⟨Z,yH,rfl,H,M,-⟩;go_wp2_with fail;go_ret2
 have A:=O (show askG wild 8 s=acV (([],3,[97,115,107]) :: (c,3,a) :: Pcs.on [32] r2.pc) (acJ wild (r2.st)) ⟨46,[],((8:Nat):Int),r2.ix,0⟩ from by
  unfold askG;simp only [↓reduceIte,Nat.reduceEqDiff];rw [l.o,i.o,f.o,j.o] <;> rfl)
 rw [A.o]
 refine⟨?_,_,_,_,H.o,M.o⟩
 show _=Ending.returned (.tuple #[.string (aM (aN (([],3,[97,115,107]) :: (c,3,a) :: Pcs.on [32] r2.pc) ++ _)),.int .i64 (acJ wild (r2.st)).id])
 have B:aN (([],3,[97,115,107]) :: (c,3,a) :: Pcs.on [32] r2.pc) ++ (if 8=7 then [32] else [])=Y:=by
  rw [if_neg (by omega),List.append_nil,← k.o];simp only [aN];rw [D.o (by omega)];simp only [List.nil_append,List.append_nil,List.append_assoc,List.cons_append]
 rw [B];rfl
theorem pa_one {wild:Bool}{q:Nat}(L:1≤q)(N:q≤8)(x:¬ q=7)(f:¬ q=8){g:Nat}{iv:Value}{w:World}{s:abd}{xs:List NV}{nv lv:Value}(H:Hid (abH g wild iv w s xs nv lv))(hn:s.ns.length≤600000) :
  Calls Tryz.prog 118 #[.pointer (some ⟨g,0,none⟩),.int .i64 (q:Int)] w (APost g wild iv w xs nv q (askG wild q s)):=by
 have M:=O (abJ.refl (g:=g) (w:=w) (xs:=xs) (nv:=nv));have X:=O (x3_is wild);have r:=O (l3_is wild);have z7:¬ (q:Int)=7:=by omega
 have C:¬ (q:Int)=8:=by omega
 have c:=run_queries q (by omega);have n:=query_le q (by omega);obtain⟨a,d⟩:∃ a,Hid (sg queriesG q=a):=⟨_,O rfl⟩;rw [d.o] at c n
 have T:(0:Int)≤((q:Nat):Int):=by omega
 have U:((q:Nat):Int) < 9:=by omega
 go_in
 go_wp2_with fail;refine (lsH H M X r (m:=1) (by omega) (by omega)).mono ?_;clear H M;rintro e w1⟨r1,l,V,c1,xs1,gW,P,rfl,h,B,t,Z1,S,E,k,H,M,-⟩;go_wp2_with fail;refine (gpH H M).mono ?_;clear H M;rintro e w2⟨b,Q,rfl,i,K,q2,H,M,R⟩
 replace k:=kp R k
 clear R;have F:¬ 9223372036854775807 < 3+b.length:=by omega
 have G:¬ 9223372036854775807 < 3+b.length+a.length:=by omega
 have I:¬ 9223372036854775807 < 3+b.length+a.length+1:=by omega
 have J:¬ 9223372036854775807 < 3+b.length+a.length+1+l.length:=by omega
 go_wp2_with fail;obtain⟨Y,j⟩:∃ Y:Bs,Hid ([97,115,107] ++ b ++ a ++ [32] ++ l=Y):=⟨_,O rfl⟩;rw [show (⟨#[97,115,107]⟩:ByteArray) ++ aM (b) ++ aM (a) ++ (⟨#[32]⟩:ByteArray) ++ aM (l)=aM Y from by rw [← j.o] <;> (simp only [← ak];rfl)];have D:Y.length≤10000000:=by rw [← j.o];simp only [aaO,List.length_cons,List.length_nil];omega
 refine (ptL H M k (by omega)).mono ?_;clear H M;rintro e w3⟨Z,W,rfl,H,M,-⟩;go_wp2_with fail;go_ret2
 have y:=O (show askG wild q s=acV (([],3,[97,115,107]) :: (b,3,a) :: Pcs.on [32] r1.pc) (acJ wild (r1.st)) ⟨46,[],((q:Nat):Int),r1.ix,0⟩ from by
  unfold askG;simp only
  rw [if_neg x,if_neg f,if_neg f,h.o,d.o,i.o] <;> rfl)
 rw [y.o]
 refine⟨?_,_,_,_,H.o,M.o⟩
 show _=Ending.returned (.tuple #[.string (aM (aN (([],3,[97,115,107]) :: (b,3,a) :: Pcs.on [32] r1.pc) ++ _)),.int .i64 (acJ wild (r1.st)).id])
 have A:aN (([],3,[97,115,107]) :: (b,3,a) :: Pcs.on [32] r1.pc) ++ (if q=7 then [32] else [])=Y:=by
  rw [if_neg (by omega),List.append_nil,← j.o];simp only [aN];rw [t.o (by omega)];simp only [List.nil_append,List.append_nil,List.append_assoc,List.cons_append]
 rw [A];rfl
theorem akH {g:Nat}{wild:Bool}{iv nv0 nv lv:Value}{w0 w:World}{s:abd}{xs0 xs:List NV}(H:Hid (abH g wild iv w s xs nv lv))(M:Hid (abJ g w0 xs0 nv0 w xs nv)){q:Nat}(d:1≤q)(c:q≤8)(j:s.ns.length≤600000):Calls Tryz.prog 118 #[.pointer (some ⟨g,0,none⟩),.int .i64 (q:Int)] w fun e i=>∃ a Y b eO f,e=.returned (.tuple #[.string (aM Y),.int .i64 a.ix])∧Hid (askG wild q s=a)∧Hid (aN a.pc ++ (if q=7 then [32] else [])=Y)∧Y.length≤20000∧Hid (abH g wild iv i a.st b eO f)∧Hid (abJ g w0 xs0 nv0 i b eO)∧Hid (Kp w xs i b):=by
 have k:Calls Tryz.prog 118 #[.pointer (some ⟨g,0,none⟩),.int .i64 (q:Int)] w (APost g wild iv w xs nv q (askG wild q s)):=by
  by_cases h7:q=7
  ·exact pa_blame d c h7 H j
  by_cases h8:q=8
  ·exact pa_look d c h8 H j
  ·exact pa_one d c h7 h8 H j
 refine k.mono ?_;rintro e i ⟨rfl,b,eO,f,h,m⟩
 refine⟨_,_,b,eO,f,rfl,O rfl,O rfl,?_,O h,O (M.o.trans m),O fun w1 v ks L=>L.mw H.o m⟩
 have h1:(aN (askG wild q s).pc).length≤11000:=(ask_bd wild q c s).1;have h2:(if q=7 then [32] else ([]:Bs)).length≤1:=by split <;> simp
 rw [aaO];omega
end Go.Proofs.YthepmkjggfijoaaGreatDoor
