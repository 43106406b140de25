/-
  A part of the proof.
-/
import Derived.Test.YthepmkjggfijoaaGreatDoorSA
import Derived.Test.YthepmkjggfijoaaGreatDoorL07
import Derived.Test.YthepmkjggfijoaaGreatDoorL08
set_option linter.all false
set_option maxRecDepth 100000
set_option maxHeartbeats 4000000
namespace Go.Proofs.YthepmkjggfijoaaGreatDoor
open Go.RowKit Mist
attribute [local go_sem] aj aH aS aB ak
theorem EK {v u:Value}{n:Nat}(h1:∀ b,u.ownBlock=some b→b < n)(h2:∀ b,v.ownBlock=some b→n≤b):u.ownBlock=none∨u.ownBlock ≠ v.ownBlock:=by
 rcases h9:u.ownBlock with _ | b
 ·exact .inl rfl
 ·right
  intro e
  have:=h1 b h9
  have:=h2 b e.symm
  omega
section
variable {g:Nat} {ay:Bool} {iv lv:Value} {w0 w w1:World} {s:bB} {xs xs1:List NV} {nv gW:Value} {v u:Value} {ks js:List Int}
theorem iL.farP (h:iL w0 w xs v ks){b:Nat}{cs:Array Value}(a:aC w b 81 cs)(i:Nat)(u:Value):iL w0 (w.setCell ⟨b,i,none⟩ u) xs v ks:=⟨ownsRow_setCell_other h.row (aT h.row a (by decide)) u,h.lo,h.far⟩
theorem iL.base (h:iL w1 w xs v ks)(h0:w0.heap.size≤w1.heap.size):iL w0 w xs v ks:=⟨h.row,fun b a=>Nat.le_trans h0 (h.lo b a),h.far⟩
theorem iL.keep (h:iL w0 w xs v ks)(b:w.grownBy w1 u.ownBlock)(a:v.ownBlock=none∨v.ownBlock ≠ u.ownBlock):iL w0 w1 xs v ks:=⟨World.ownsRow.kept h.row b a,h.lo,h.far⟩
theorem iL.grows (h:iL w0 w xs v ks){a cap:Nat}(q:cO g ay iv w s xs nv lv)(d:w1.ownsRow 0 3 1 (.slice (some ⟨a,0,none⟩) (ks.length+js.length) cap) (ks.length+js.length) (intCells ks ++ intCells js))(c:v.ownBlock=some a∨a=w.heap.size)(h0:w0.heap.size≤w.heap.size):iL w0 w1 xs (.slice (some ⟨a,0,none⟩) (ks.length+js.length) cap) (ks ++ js):=by
 refine⟨?_,fun b f=>?_,fun x i=>?_⟩
 ·unfold cB;rw [aaO,show intCells (ks ++ js)=intCells ks ++ intCells js by unfold intCells;rw [List.map_append]];exact d
 ·have f:a=b:=by simpa [Value.ownBlock] using f
  subst f;rcases c with e | e
  ·exact h.lo _ e
  ·omega
 ·rcases c with e | e
  ·have:=h.far x i
   rw [e] at this
   simpa [Value.ownBlock] using this
  ·rcases h9:x.2.ownBlock with _ | b
   ·exact .inl rfl
   ·right
    intro j;have h1:=cB.lt (q.kids x i) b h9;simp [Value.ownBlock] at j
    omega
theorem cO.items (h:cO g ay iv w s xs nv lv)(AY:Value):cO g ay AY (w.setCell ⟨g,2,none⟩ AY) s xs nv lv :=
 have m:Mv g nv.ownBlock w nv.ownBlock (w.setCell ⟨g,2,none⟩ AY):=Mv.d_ h.blk 2 AY
 ⟨(by have:=h.blk.d_ 2 AY;simpa using this),h.seed.below (h.low m) (aaK h.lt),ownsRow_setCell_other h.own (aT h.own h.blk (by decide)) _,fun x a=>h.l6 m (h.kids x a),h.ns,h.pow.on (h.low m)⟩
end
def ko (g:Nat)(ay:Bool)(w0 w:World)(its:List Int)(r:jy)(e:Ending)(w':World):Prop :=
 e=.returned (.string (aM (aN r.pc)))∧∃ AY xs' eO j4,cO g ay AY w' r.st xs' eO j4∧iL w0 w' xs' AY (its ++ [r.ix])∧Below g w w'
theorem SS (ay:Bool):J2 ay (bA ay 4) 700000 (.int .i64 4) :=
 ⟨fun g iv w s xs nv lv h a=>Mw ay g iv w s xs nv lv h (by omega),C_ (jA ay 4) (by decide) (by decide),fun s=>fE ay 4 s⟩
theorem SQ (ay:Bool):J2 ay (bA ay 3) 750000 (.int .i64 3) :=
 ⟨fun g iv w s xs nv lv h a=>vI ay g iv w s xs nv lv h (by omega),C_ (jA ay 3) (by decide) (by decide),fun s=>fE ay 3 s⟩
theorem Rf (ay:Bool):LsC ay (bA ay 3) 700000 (.int .i64 4):=fun m a g iv w s xs nv lv h b =>
 Br ay 3 750000 (by omega) (vI ay) (by decide) (by decide) m a g iv w s xs nv lv h (by omega)
section
variable {g:Nat} {ay:Bool} {iv DL nv lv:Value} {w0 w:World} {s:bB} {Em xs:List NV} (H:Hid (cO g ay iv w s xs nv lv)) (M:Hid (fI g w0 Em DL w xs nv))
include H M
theorem kdH (j:s.ns.length≤800000):Calls Tryz.prog 116 #[.pointer (some ⟨g,0,none⟩),.int .i64 2] w fun e c=>∃ a T b eO d,e=.returned (.tuple #[.string (aM T),.int .i64 a.ix])∧Hid (bF ay 2 s=a)∧Hid (aN a.pc=T)∧Hid (∀ u,aN (bM.on u a.pc)=u ++ T)∧T.length≤100∧a.st.ns.length≤s.ns.length+3∧Hid (cO g ay iv c a.st b eO d)∧Hid (fI g w0 Em DL c b eO)∧Hid (Kp w xs c b):=by
 refine (vo ay g iv _ s _ _ _ H.o j).mono ?_;rintro e c ⟨rfl,b,eO,d,h,m⟩;obtain⟨f,i⟩:=qJ ay 2 s;exact⟨_,_,b,eO,d,rfl,O rfl,O rfl,O (xI (oK ay 2 s)),Nat.le_trans f (by omega),i,O h,O (M.o.trans m),O fun w1 v ks L=>L.mw H.o m⟩
theorem nbH {n:Int}(h0:-140 < n)(h1:n < 140)(j:s.ns.length≤900000):Calls Tryz.prog 112 #[.pointer (some ⟨g,0,none⟩),.int .i64 n] w fun e c=>∃ a T b eO d,e=.returned (.tuple #[.string (aM T),.int .i64 a.ix])∧Hid (bV n s=a)∧Hid (aN a.pc=T)∧Hid (∀ u,aN (bM.on u a.pc)=u ++ T)∧T.length≤100∧a.st.ns.length≤s.ns.length+1∧Hid (cO g ay iv c a.st b eO d)∧Hid (fI g w0 Em DL c b eO)∧Hid (Kp w xs c b):=by
 refine (DV ay n (by omega) (by omega) g iv _ s _ _ _ H.o j).mono ?_;rintro e c ⟨rfl,b,eO,d,h,m⟩;obtain⟨f,i⟩:=Ik n h0 h1 s;exact⟨_,_,b,eO,d,rfl,O rfl,O rfl,O (on_ne (num_ne n)),Nat.le_trans f (by omega),Nat.le_of_eq i,O h,O (M.o.trans m),O fun w1 v ks L=>L.mw H.o m⟩
theorem prH {m:Nat}(t:m≤6)(x:s.ns.length≤700000):Calls Tryz.prog 115 #[.pointer (some ⟨g,0,none⟩),.int .i64 (m:Int)] w fun e d=>∃ r T A c a eO f,e=.returned (.tuple #[.string (aM T),.slice A r.ix.length c])∧Hid (bC ay m ⟨[],[],s⟩=r)∧Hid (aN r.pc=T)∧T.length≤500∧r.st.ns.length≤s.ns.length+30∧r.ix.length≤6∧Hid (iL w0 d a (.slice A r.ix.length c) r.ix)∧Hid (cO g ay iv d r.st a eO f)∧Hid (fI g w0 Em DL d a eO)∧Hid (Kp w xs d a):=by
 refine (DW ay 700000 (by omega) m t g iv _ s _ _ _ H.o x).mono ?_;rintro e d ⟨A,c,a,eO,f,rfl,l,h,k⟩;obtain⟨i,j,n⟩:=uh ay m ⟨[],[],s⟩;rw [dM] at i
 have j:(bC ay m ⟨[],[],s⟩).st.ns.length≤s.ns.length+m * 4:=j;have n:(bC ay m ⟨[],[],s⟩).ix.length=0+m:=n;exact⟨_,_,A,c,a,eO,f,rfl,O rfl,O rfl,Nat.le_trans i (by omega),by omega,by omega,O ⟨l.row,fun b q=>Nat.le_trans M.o.size (l.lo b q),l.far⟩,O h,O (M.o.trans k),O fun w1 v ks L=>L.mw H.o k⟩
theorem WB {f:Option Addr}{h d cap:Nat}{id:Int}{a:List Int}{k e:World}(D:iv=.slice f a.length h)(B:Hid (∀ (row:Option Nat) (t:World),Mv g DL.ownBlock w0 row t→Below g w0 t))(L:Hid (iL k w xs (.slice f a.length h) a))(G:k.heap.size≤w0.heap.size)(E:g < k.heap.size)
  (j:e.ownsRow 0 3 1 (.slice (some ⟨d,0,none⟩) (a.length+1) cap) (a.length+1) (intCells a ++ [.int .i64 id])) (c:(w.alloc (.cells #[.int .i64 id] 3)).grownBy e (Value.slice f a.length h).ownBlock) (q:(Value.slice f a.length h).ownBlock=some d∨d=(w.alloc (.cells #[.int .i64 id] 3)).heap.size) :
  aC e g 81 #[lv,nv,.slice f a.length h,.bool ay]∧Hid (cO g ay (.slice (some ⟨d,0,none⟩) (a.length+1) cap) (e.setCell ⟨g,2,none⟩ (.slice (some ⟨d,0,none⟩) (a.length+1) cap)) s xs nv lv)∧Hid (iL k (e.setCell ⟨g,2,none⟩ (.slice (some ⟨d,0,none⟩) (a.length+1) cap)) xs (.slice (some ⟨d,0,none⟩) (a.length+1) cap) (a ++ [id]))∧Hid (Below g w0 (e.setCell ⟨g,2,none⟩ (.slice (some ⟨d,0,none⟩) (a.length+1) cap))):=by
 subst D;have F:=M.o.size;have r:=B.o _ _ M.o.mv;have n:=L.o.alloc (.cells #[.int .i64 id] 3);have m:=H.o.alloc (.cells #[.int .i64 id] 3);have A:=r.alloc (by have:=r.size;have:=H.o.lt;omega) (.cells #[.int .i64 id] 3);have i:=fun b C=>aaK (aaW E (n.lo b C))
 have y:=n.grow m j q (Nat.le_trans G (by simp;omega));have l:=m.grow n c i;have x:=A.grown c (aaK m.lt) i;exact⟨l.blk,O (l.items _),O (y.farP l.blk 2 _),O (dx x (aaJ _))⟩
end
theorem Xh {g:Nat}{ay:Bool}{w0 w d:World}{s:bB}{c:List Int}{a:jy}{Y G:Bs}{t:ByteArray}{iv nv lv:Value}{xs:List NV}{id:Int}(i:bX ay s=a)(f:aN a.pc ++ dF s=Y)(e:bE ay a.st=G)(hi:a.ix=id)(j:t=aM (Y ++ G ++ [59]))(h:cO g ay iv d (aO ay a.st) xs nv lv)(l:iL w0 d xs iv (c ++ [id]))(b:Below g w d):ko g ay w0 w c (dz ay s) (.returned (.string t)) d:=by
 subst i e hi
 refine⟨?_,iv,xs,nv,lv,h,l,b⟩
 rw [j,← f]
 show _=Ending.returned (.string (aM (aN ((bX ay s).pc ++ [(dF s ++ bE ay (bX ay s).st,4,[59])]))))
 rw [qZ];simp only [aN];simp only [List.append_nil,List.append_assoc]
theorem sP (r:Nat)(h:r < 9)(w:World):Sem.run Tryz.prog (Instr.index 164 (.agg #[.string ⟨#[]⟩,.string ⟨#[109,117,115,116]⟩,.string ⟨#[109,97,121]⟩,.string ⟨#[99,111,117,110,116]⟩,.string ⟨#[98,111,117,110,100,115]⟩,.string ⟨#[118,97,108,117,101,115]⟩,.string ⟨#[119,104,121]⟩,.string ⟨#[98,108,97,109,101]⟩,.string ⟨#[108,111,111,107]⟩]) (.int .i64 r)) w=.ok (.string (aM (sg gZ r))) w:=by
 obtain rfl | rfl | rfl | rfl | rfl | rfl | rfl | rfl | rfl:r=0∨r=1∨r=2∨r=3∨r=4∨r=5∨r=6∨r=7∨r=8:=by omega
 all_goals kernel_rfl
theorem Vm {ay:Bool}{g:Nat}{iv:Value}{w0 w:World}{s:bB}{xs:List NV}{nv lv:Value}{f:List Int}(H:Hid (cO g ay iv w s xs nv lv))(c:Hid (iL w0 w xs iv f))(hw:w0.heap.size≤w.heap.size)(hg:g < w0.heap.size)(a8:f.length≤1000)(hn:s.ns.length≤100000)(L:s.nx % 7=3) :
  Calls Tryz.prog 72 #[.pointer (some ⟨g,0,none⟩)] w (ko g ay w0 w f (dz ay s)):=by
 obtain⟨Ai,ci,A⟩:=dh c.o.row;subst A;obtain⟨j0,B,C,D,F⟩:=info_parts gN;have Ql:=O fun (row:Option Nat) (w':World) (m:Mv g nv.ownBlock w row w')=>H.o.low m
 have M:=O (fI.refl (g:=g) (w:=w) (xs:=xs) (nv:=nv));have OQ:=O (cB.lt c.o.row);obtain⟨E,K⟩:∃ E,Hid (bA ay 4=E):=⟨_,O rfl⟩;have X:=O (SS ay);rw [K.o] at X
 have MN:Int.tmod (s.nx:Int) 7=3:=by rw [Int.tmod_eq_emod_of_nonneg (by omega)];omega
 have I:=O (show bX ay s=mG ay (bn s.tl.nx) s.tl.tl by unfold bX;simp only;rw [if_neg (by omega),if_neg (by omega),if_neg (by omega),if_pos L]);have JV:=O (show dF s=[] from if_neg (fun h=>by omega));go_in
 go_wp2_with fail;refine (wP H M).mono ?_;clear H M;rintro e w1⟨lW,rfl,q1,H,M,R⟩
 replace c:=kp R c
 clear R;go_wp2_with fail;refine (wP H M).mono ?_;clear H M;rintro e w2⟨Ah,rfl,q2,H,M,R⟩
 replace c:=kp R c
 clear R;go_wp2_with fail;refine (N9 (s.tl.nx) _).mono ?_;rintro e w3⟨x,rfl,Hx,lx,rfl⟩;rw [Hx.o] at I
 clear L;go_wp2_with fail;refine (GD H M X (by omega)).mono ?_;clear H M;rintro e w4⟨b,y,b1,yH,Ie,rfl,fq,Ji,Te,b0,a0,H,M,R⟩
 replace c:=kp R c
 clear R;have pJ:¬ 9223372036854775807 < 4+x.length:=by omega
 have sF:¬ 9223372036854775807 < 4+x.length+1:=by omega
 go_wp2_with fail;refine (uU H M).mono ?_;clear H M;rintro e w5⟨k,Rt,rfl,OP,a7,q5,H,M,R⟩
 replace c:=kp R c
 clear R;clear pJ sF;have EW:¬ 9223372036854775807 < 4+x.length:=by omega
 have E5:¬ 9223372036854775807 < 4+x.length+1:=by omega
 have GA:¬ 9223372036854775807 < 4+x.length+1+k.length:=by omega
 have GZ:¬ 9223372036854775807 < 4+x.length+1+k.length+y.length:=by omega
 go_wp2_with fail;obtain⟨Y,t⟩:∃ Y:Bs,Hid ([108,101,116,32] ++ x ++ [61] ++ k ++ y=Y):=⟨_,O rfl⟩;rw [show (⟨#[108,101,116,32]⟩:ByteArray) ++ aM (x) ++ (⟨#[61]⟩:ByteArray) ++ aM (k) ++ aM (y)=aM Y from by rw [← t.o] <;> (simp only [← ak];rfl)];have zR:Y.length≤10000000:=by rw [← t.o];simp only [aaO,List.length_cons,List.length_nil];omega
 refine (Tv H M [b.ix] (by simp) (by omega)).mono ?_;clear H M;rintro e w6⟨b2,XB,rfl,H,M,R⟩
 replace c:=kp R c
 clear R
 have HF:=O (show mG ay x s.tl.tl=bL (([],3,[108,101,116]) :: ([32],1,x) :: bN [61] :: bM.on k b.pc) (aO ay (b.st)) ⟨43,x,0,[b.ix],0⟩ from by
  unfold mG
  try simp only
  rw [K.o,fq.o,OP.o] <;> rfl)
 have Q:aN (([],3,[108,101,116]) :: ([32],1,x) :: bN [61] :: bM.on k b.pc) ++ dF s=Y:=by
  rw [JV.o,List.append_nil];simp only [aN,qZ,bN];rw [Te.o,← t.o] <;> simp only [List.nil_append,List.append_nil,List.append_assoc,List.cons_append]
 have V:=O Q;clear Q;obtain⟨id,P⟩:∃ id,Hid (bB.id (aO ay (b.st))=id):=⟨_,O rfl⟩;rw [P.o];have j:=(c.o.alloc (.cells #[.int .i64 id] 3)).row;have r:=O j;have cI:=H.o.blk.cell 2;clear j;go_wp2_with (at_builtin;go_loud (refine wpList_append_lies _ rfl (.tmp 234) (.tmp 236) 24 rfl 0 3 j0 (.int .i64 0) 1 8 Tryz.underlying24 B C D F rfl (by decide) _ f.length (intCells f) rfl r.o ⟨w6.heap.size,0,none⟩ 1 1 [.int .i64 id] rfl rfl (cell_one_new _ _ _) (by intro u N;simp at N;subst N;rfl) (by omega) (by simp only [maxLen];omega) (by omega) (aaL _) _ rfl ?_);intro gg a2 Tx i d l a9;obtain⟨q,n,W,T⟩:=WB H M rfl Ql c hw hg i d l;have a1:=q.cell 2;have a6:=q.frozen 2;clear i d l q)
 refine (bY g ay _ _ ((aO ay (b.st)).put ⟨43,x,0,[b.ix],0⟩) _ _ _ n.o).mono ?_;rintro e SH⟨rfl,Ig,h,m⟩;have Z:=O h;have L5:=O (W.o.mv n.o m);have S:=O (T.o.trans (n.o.low m));clear h m;have U:=dG ay ((aO ay (b.st)).put ⟨43,x,0,[b.ix],0⟩);obtain⟨G,J⟩:∃ G,Hid (bE ay ((aO ay (b.st)).put ⟨43,x,0,[b.ix],0⟩)=G):=⟨_,O rfl⟩;rw [J.o] at U ⊢
 have a3:¬ 9223372036854775807 < Y.length+G.length:=by omega
 have a5:¬ 9223372036854775807 < Y.length+G.length+1:=by omega
 go_wp2_with fail;go_ret;exact Xh (a:=bL (([],3,[108,101,116]) :: ([32],1,x) :: bN [61] :: bM.on k b.pc) (aO ay (b.st)) ⟨43,x,0,[b.ix],0⟩) (I.o.trans HF.o) V.o J.o P.o (by first|(rw [← ak];rfl)|(rw [← ak,← ak];rfl)) Z.o L5.o S.o
theorem Iu {ay:Bool}{g:Nat}{iv:Value}{w0 w:World}{s:bB}{xs:List NV}{nv lv:Value}{f:List Int}(H:Hid (cO g ay iv w s xs nv lv))(c:Hid (iL w0 w xs iv f))(hw:w0.heap.size≤w.heap.size)(hg:g < w0.heap.size)(a8:f.length≤1000)(hn:s.ns.length≤100000)(L:s.nx % 7=4) :
  Calls Tryz.prog 72 #[.pointer (some ⟨g,0,none⟩)] w (ko g ay w0 w f (dz ay s)):=by
 obtain⟨Ai,ci,A⟩:=dh c.o.row;subst A;obtain⟨j0,B,C,D,F⟩:=info_parts gN;have Ql:=O fun (row:Option Nat) (w':World) (m:Mv g nv.ownBlock w row w')=>H.o.low m
 have M:=O (fI.refl (g:=g) (w:=w) (xs:=xs) (nv:=nv));have OQ:=O (cB.lt c.o.row);obtain⟨E,K⟩:∃ E,Hid (bA ay 4=E):=⟨_,O rfl⟩;have X:=O (SS ay);rw [K.o] at X
 have MN:Int.tmod (s.nx:Int) 7=4:=by rw [Int.tmod_eq_emod_of_nonneg (by omega)];omega
 have I:=O (show bX ay s=mI ay (bn s.tl.nx) s.tl.tl by unfold bX;simp only;rw [if_neg (by omega),if_neg (by omega),if_neg (by omega),if_neg (by omega),if_pos L]);have JV:=O (show dF s=[] from if_neg (fun h=>by omega));go_in
 go_wp2_with fail;refine (wP H M).mono ?_;clear H M;rintro e w1⟨lW,rfl,q1,H,M,R⟩
 replace c:=kp R c
 clear R;go_wp2_with fail;refine (wP H M).mono ?_;clear H M;rintro e w2⟨Ah,rfl,q2,H,M,R⟩
 replace c:=kp R c
 clear R;go_wp2_with fail;refine (N9 (s.tl.nx) _).mono ?_;rintro e w3⟨x,rfl,Hx,lx,rfl⟩;rw [Hx.o] at I
 clear L;go_wp2_with fail;refine (GD H M X (by omega)).mono ?_;clear H M;rintro e w4⟨b,y,b1,yH,Ie,rfl,fq,Ji,Te,b0,a0,H,M,R⟩
 replace c:=kp R c
 clear R;have pJ:¬ 9223372036854775807 < 8+x.length:=by omega
 go_wp2_with fail;refine (uU H M).mono ?_;clear H M;rintro e w5⟨k,Rt,rfl,OP,a7,q5,H,M,R⟩
 replace c:=kp R c
 clear R;clear pJ;have EW:¬ 9223372036854775807 < 8+x.length:=by omega
 have E5:¬ 9223372036854775807 < 8+x.length+k.length:=by omega
 have GA:¬ 9223372036854775807 < 8+x.length+k.length+1:=by omega
 have GZ:¬ 9223372036854775807 < 8+x.length+k.length+1+y.length:=by omega
 go_wp2_with fail;obtain⟨Y,t⟩:∃ Y:Bs,Hid ([111,98,115,101,114,118,101,32] ++ x ++ k ++ [58] ++ y=Y):=⟨_,O rfl⟩;rw [show (⟨#[111,98,115,101,114,118,101,32]⟩:ByteArray) ++ aM (x) ++ aM (k) ++ (⟨#[58]⟩:ByteArray) ++ aM (y)=aM Y from by rw [← t.o] <;> (simp only [← ak];rfl)];have zR:Y.length≤10000000:=by rw [← t.o];simp only [aaO,List.length_cons,List.length_nil];omega
 refine (Tv H M [b.ix] (by simp) (by omega)).mono ?_;clear H M;rintro e w6⟨b2,XB,rfl,H,M,R⟩
 replace c:=kp R c
 clear R
 have HF:=O (show mI ay x s.tl.tl=bL (([],3,[111,98,115,101,114,118,101]) :: ([32],1,x) :: (k,4,[58]) :: b.pc) (aO ay (b.st)) ⟨44,x,0,[b.ix],0⟩ from by
  unfold mI
  try simp only
  rw [K.o,fq.o,OP.o] <;> rfl)
 have Q:aN (([],3,[111,98,115,101,114,118,101]) :: ([32],1,x) :: (k,4,[58]) :: b.pc) ++ dF s=Y:=by
  rw [JV.o,List.append_nil];simp only [aN,qZ,bN];rw [Ji.o,← t.o] <;> simp only [List.nil_append,List.append_nil,List.append_assoc,List.cons_append]
 have V:=O Q;clear Q;obtain⟨id,P⟩:∃ id,Hid (bB.id (aO ay (b.st))=id):=⟨_,O rfl⟩;rw [P.o];have j:=(c.o.alloc (.cells #[.int .i64 id] 3)).row;have r:=O j;have cI:=H.o.blk.cell 2;clear j;go_wp2_with (at_builtin;go_loud (refine wpList_append_lies _ rfl (.tmp 234) (.tmp 236) 24 rfl 0 3 j0 (.int .i64 0) 1 8 Tryz.underlying24 B C D F rfl (by decide) _ f.length (intCells f) rfl r.o ⟨w6.heap.size,0,none⟩ 1 1 [.int .i64 id] rfl rfl (cell_one_new _ _ _) (by intro u N;simp at N;subst N;rfl) (by omega) (by simp only [maxLen];omega) (by omega) (aaL _) _ rfl ?_);intro gg a2 Tx i d l a9;obtain⟨q,n,W,T⟩:=WB H M rfl Ql c hw hg i d l;have a1:=q.cell 2;have a6:=q.frozen 2;clear i d l q)
 refine (bY g ay _ _ ((aO ay (b.st)).put ⟨44,x,0,[b.ix],0⟩) _ _ _ n.o).mono ?_;rintro e SH⟨rfl,Ig,h,m⟩;have Z:=O h;have L5:=O (W.o.mv n.o m);have S:=O (T.o.trans (n.o.low m));clear h m;have U:=dG ay ((aO ay (b.st)).put ⟨44,x,0,[b.ix],0⟩);obtain⟨G,J⟩:∃ G,Hid (bE ay ((aO ay (b.st)).put ⟨44,x,0,[b.ix],0⟩)=G):=⟨_,O rfl⟩;rw [J.o] at U ⊢
 have a3:¬ 9223372036854775807 < Y.length+G.length:=by omega
 have a5:¬ 9223372036854775807 < Y.length+G.length+1:=by omega
 go_wp2_with fail;go_ret;exact Xh (a:=bL (([],3,[111,98,115,101,114,118,101]) :: ([32],1,x) :: (k,4,[58]) :: b.pc) (aO ay (b.st)) ⟨44,x,0,[b.ix],0⟩) (I.o.trans HF.o) V.o J.o P.o (by first|(rw [← ak];rfl)|(rw [← ak,← ak];rfl)) Z.o L5.o S.o
theorem IJ {ay:Bool}{g:Nat}{iv:Value}{w0 w:World}{s:bB}{xs:List NV}{nv lv:Value}{d:List Int}(H:Hid (cO g ay iv w s xs nv lv))(b:Hid (iL w0 w xs iv d))(hw:w0.heap.size≤w.heap.size)(hg:g < w0.heap.size)(a6:d.length≤1000)(hn:s.ns.length≤100000)(F:s.nx % 7=5) :
  Calls Tryz.prog 72 #[.pointer (some ⟨g,0,none⟩)] w (ko g ay w0 w d (dz ay s)):=by
 obtain⟨Ai,ci,t⟩:=dh b.o.row;subst t;obtain⟨j0,y,A,B,C⟩:=info_parts gN;have Ql:=O fun (row:Option Nat) (w':World) (m:Mv g nv.ownBlock w row w')=>H.o.low m
 have M:=O (fI.refl (g:=g) (w:=w) (xs:=xs) (nv:=nv));have OQ:=O (cB.lt b.o.row);have MN:Int.tmod (s.nx:Int) 7=5:=by rw [Int.tmod_eq_emod_of_nonneg (by omega)];omega
 have D:=O (show bX ay s=mK ay (bn s.tl.nx) s.tl.tl by unfold bX;simp only;rw [if_neg (by omega),if_neg (by omega),if_neg (by omega),if_neg (by omega),if_neg (by omega),if_pos F]);have W:=O (show dF s=[] from if_neg (fun h=>by omega));go_in
 go_wp2_with fail;refine (wP H M).mono ?_;clear H M;rintro e w1⟨lW,rfl,q1,H,M,R⟩
 replace b:=kp R b
 clear R;go_wp2_with fail;refine (wP H M).mono ?_;clear H M;rintro e w2⟨Ah,rfl,q2,H,M,R⟩
 replace b:=kp R b
 clear R;go_wp2_with fail;refine (N9 (s.tl.nx) _).mono ?_;rintro e w3⟨x,rfl,V,lx,rfl⟩;rw [V.o] at D
 clear F;go_wp2_with fail;refine (uU H M).mono ?_;clear H M;rintro e w4⟨j,Ie,rfl,X,a5,q4,H,M,R⟩
 replace b:=kp R b
 clear R;have EW:¬ 9223372036854775807 < 7+j.length:=by omega
 have E5:¬ 9223372036854775807 < 7+j.length+x.length:=by omega
 go_wp2_with fail;obtain⟨Y,r⟩:∃ Y:Bs,Hid ([114,101,116,114,97,99,116] ++ j ++ x=Y):=⟨_,O rfl⟩;rw [show (⟨#[114,101,116,114,97,99,116]⟩:ByteArray) ++ aM (j) ++ aM (x)=aM Y from by rw [← r.o] <;> (simp only [← ak];rfl)];have zR:Y.length≤10000000:=by rw [← r.o];simp only [aaO,List.length_cons,List.length_nil];omega
 refine (ptN H M (by omega)).mono ?_;clear H M;rintro e w5⟨a8,Fu,rfl,H,M,R⟩
 replace b:=kp R b
 clear R
 have U:=O (show mK ay x s.tl.tl=bL [([],3,[114,101,116,114,97,99,116]),(j,1,x)] (aO ay (s.tl.tl)) ⟨45,x,0,[],0⟩ from by
  unfold mK
  try simp only
  rw [X.o] <;> rfl)
 have K:aN [([],3,[114,101,116,114,97,99,116]),(j,1,x)] ++ dF s=Y:=by
  rw [W.o,List.append_nil];simp only [aN,qZ,bN];rw [← r.o] <;> simp only [List.nil_append,List.append_nil,List.append_assoc,List.cons_append]
 have Q:=O K;clear K;obtain⟨id,J⟩:∃ id,Hid (bB.id (aO ay (s.tl.tl))=id):=⟨_,O rfl⟩;rw [J.o];have i:=(b.o.alloc (.cells #[.int .i64 id] 3)).row;have q:=O i;have cI:=H.o.blk.cell 2;clear i;go_wp2_with (at_builtin;go_loud (refine wpList_append_lies _ rfl (.tmp 234) (.tmp 236) 24 rfl 0 3 j0 (.int .i64 0) 1 8 Tryz.underlying24 y A B C rfl (by decide) _ d.length (intCells d) rfl q.o ⟨w5.heap.size,0,none⟩ 1 1 [.int .i64 id] rfl rfl (cell_one_new _ _ _) (by intro u I;simp at I;subst I;rfl) (by omega) (by simp only [maxLen];omega) (by omega) (aaL _) _ rfl ?_);intro gg a1 Tx f c k a7;obtain⟨n,l,S,N⟩:=WB H M rfl Ql b hw hg f c k;have a0:=n.cell 2;have a4:=n.frozen 2;clear f c k n)
 refine (bY g ay _ _ ((aO ay (s.tl.tl)).put ⟨45,x,0,[],0⟩) _ _ _ l.o).mono ?_;rintro e SH⟨rfl,Ig,h,m⟩;have T:=O h;have Z:=O (S.o.mv l.o m);have L:=O (N.o.trans (l.o.low m));clear h m;have P:=dG ay ((aO ay (s.tl.tl)).put ⟨45,x,0,[],0⟩);obtain⟨G,E⟩:∃ G,Hid (bE ay ((aO ay (s.tl.tl)).put ⟨45,x,0,[],0⟩)=G):=⟨_,O rfl⟩;rw [E.o] at P ⊢
 have a2:¬ 9223372036854775807 < Y.length+G.length:=by omega
 have a3:¬ 9223372036854775807 < Y.length+G.length+1:=by omega
 go_wp2_with fail;go_ret;exact Xh (a:=bL [([],3,[114,101,116,114,97,99,116]),(j,1,x)] (aO ay (s.tl.tl)) ⟨45,x,0,[],0⟩) (D.o.trans U.o) Q.o E.o J.o (by first|(rw [← ak];rfl)|(rw [← ak,← ak];rfl)) T.o Z.o L.o
theorem Nv {ay:Bool}{g:Nat}{iv:Value}{w0 w:World}{s:bB}{xs:List NV}{nv lv:Value}{l:List Int}(H:Hid (cO g ay iv w s xs nv lv))(b:Hid (iL w0 w xs iv l))(hw:w0.heap.size≤w.heap.size)(hg:g < w0.heap.size)(c2:l.length≤1000)(hn:s.ns.length≤100000)(hb:s.nx % 7=0) :
  Calls Tryz.prog 72 #[.pointer (some ⟨g,0,none⟩)] w (ko g ay w0 w l (dz ay s)):=by
 obtain⟨Ai,ci,P⟩:=dh b.o.row;subst P;obtain⟨j0,Q,U,V,W⟩:=info_parts gN;have Ql:=O fun (row:Option Nat) (w':World) (m:Mv g nv.ownBlock w row w')=>H.o.low m
 have M:=O (fI.refl (g:=g) (w:=w) (xs:=xs) (nv:=nv));have OQ:=O (cB.lt b.o.row);have MN:Int.tmod (s.nx:Int) 7=0:=by rw [Int.tmod_eq_emod_of_nonneg (by omega)];omega
 have Z:=O (show bX ay s=ng ay (bn s.tl.nx) s.tl.tl by unfold bX;simp only;rw [if_pos hb]);have JV:=O (show dF s=[] from if_neg (fun h=>by omega));go_in
 go_wp2_with fail;refine (wP H M).mono ?_;clear H M;rintro e w1⟨lW,rfl,q1,H,M,R⟩
 replace b:=kp R b
 clear R;go_wp2_with fail;refine (wP H M).mono ?_;clear H M;rintro e w2⟨Ah,rfl,q2,H,M,R⟩
 replace b:=kp R b
 clear R;go_wp2_with fail;refine (N9 (s.tl.nx) _).mono ?_;rintro e w3⟨x,rfl,Hx,lx,rfl⟩;rw [Hx.o] at Z
 clear hb;obtain⟨q,T⟩:∃ m,m=(s.tl.tl).nx % 30:=⟨_,rfl⟩;have zq:Int.tmod ((s.tl.tl).nx:Int) 30=(q:Int):=by rw [Int.tmod_eq_emod_of_nonneg (by omega),T];omega
 have L:=O T.symm;have a9:q≤29:=by omega
 clear T;obtain⟨low,k⟩:∃ low:Int,low=(q:Int) - 15:=⟨_,rfl⟩;have a6:IntKind.i64.wrap ((q:Int) - 15)=low:=by rw [IntWalk.i64_in _ (by omega),k]
 have Bu:=O k.symm;have c4:-15≤low:=by omega
 have c5:low≤14:=by omega
 clear k;go_wp2_with fail;refine (wP H M).mono ?_;clear H M;rintro e w4⟨Ie,rfl,q4,H,M,R⟩
 replace b:=kp R b
 clear R;go_wp2_with fail;refine (nbH H M (n:=low) (by omega) (by omega) (by omega)).mono ?_;clear H M;rintro e w5⟨i,f,d5,Fu,Rt,rfl,jX,zO,K,d3,b0,H,M,R⟩
 replace b:=kp R b
 clear R;obtain⟨p,S⟩:∃ m,m=(i.st).nx % 12:=⟨_,rfl⟩;have zp:Int.tmod ((i.st).nx:Int) 12=(p:Int):=by rw [Int.tmod_eq_emod_of_nonneg (by omega),S];omega
 have Hp:=O S.symm;have bp:p≤11:=by omega
 clear S;have d7:IntKind.i64.wrap (low+(p:Int))=low+(p:Int):=IntWalk.i64_in _ (by omega);go_wp2_with fail;refine (wP H M).mono ?_;clear H M;rintro e w6⟨c7,rfl,q6,H,M,R⟩
 replace b:=kp R b
 clear R;go_wp2_with fail;refine (nbH H M (n:=low+(p:Int)) (by omega) (by omega) (by omega)).mono ?_;clear H M;rintro e w7⟨d,J,d6,d1,c8,rfl,o9,a4,N,d4,b1,H,M,R⟩
 replace b:=kp R b
 clear R;have pJ:¬ 9223372036854775807 < 7+x.length:=by omega
 have sF:¬ 9223372036854775807 < 7+x.length+1:=by omega
 go_wp2_with fail;refine (uU H M).mono ?_;clear H M;rintro e w8⟨c,c9,rfl,Y2,c1,q8,H,M,R⟩
 replace b:=kp R b
 clear R;clear pJ sF;have wB:¬ 9223372036854775807 < 7+x.length:=by omega
 have wC:¬ 9223372036854775807 < 7+x.length+1:=by omega
 have EO:¬ 9223372036854775807 < 7+x.length+1+c.length:=by omega
 have EP:¬ 9223372036854775807 < 7+x.length+1+c.length+f.length:=by omega
 go_wp2_with fail;refine (uU H M).mono ?_;clear H M;rintro e w9⟨r,d0,rfl,D,X,a8,H,M,R⟩
 replace b:=kp R b
 clear R;clear wB wC EO EP;have wD:¬ 9223372036854775807 < 7+x.length:=by omega
 have wE:¬ 9223372036854775807 < 7+x.length+1:=by omega
 have wF:¬ 9223372036854775807 < 7+x.length+1+c.length:=by omega
 have wG:¬ 9223372036854775807 < 7+x.length+1+c.length+f.length:=by omega
 have AL:¬ 9223372036854775807 < 7+x.length+1+c.length+f.length+r.length:=by omega
 have ET:¬ 9223372036854775807 < 7+x.length+1+c.length+f.length+r.length+2:=by omega
 go_wp2_with fail;refine (uU H M).mono ?_;clear H M;rintro e Qv⟨A,a1,rfl,OO,a0,d2,H,M,R⟩
 replace b:=kp R b
 clear R;clear wD wE wF wG AL ET;have EW:¬ 9223372036854775807 < 7+x.length:=by omega
 have E5:¬ 9223372036854775807 < 7+x.length+1:=by omega
 have GA:¬ 9223372036854775807 < 7+x.length+1+c.length:=by omega
 have GZ:¬ 9223372036854775807 < 7+x.length+1+c.length+f.length:=by omega
 have b4:¬ 9223372036854775807 < 7+x.length+1+c.length+f.length+r.length:=by omega
 have b5:¬ 9223372036854775807 < 7+x.length+1+c.length+f.length+r.length+2:=by omega
 have b6:¬ 9223372036854775807 < 7+x.length+1+c.length+f.length+r.length+2+A.length:=by omega
 have b7:¬ 9223372036854775807 < 7+x.length+1+c.length+f.length+r.length+2+A.length+J.length:=by omega
 go_wp2_with fail;obtain⟨Y,I⟩:∃ Y:Bs,Hid ([99,104,111,111,115,101,32] ++ x ++ [58] ++ c ++ f ++ r ++ [46,46] ++ A ++ J=Y):=⟨_,O rfl⟩;rw [show (⟨#[99,104,111,111,115,101,32]⟩:ByteArray) ++ aM (x) ++ (⟨#[58]⟩:ByteArray) ++ aM (c) ++ aM (f) ++ aM (r) ++ (⟨#[46,46]⟩:ByteArray) ++ aM (A) ++ aM (J)=aM Y from by rw [← I.o] <;> (simp only [← ak];rfl)];have zR:Y.length≤10000000:=by rw [← I.o];simp only [aaO,List.length_cons,List.length_nil];omega
 refine (Tv H M [i.ix,d.ix] (by simp) (by omega)).mono ?_;clear H M;rintro e Et⟨a3,a2,rfl,H,M,R⟩
 replace b:=kp R b
 clear R
 have HF:=O (show ng ay x s.tl.tl=bL (([],3,[99,104,111,111,115,101]) :: ([32],1,x) :: bN [58] :: (bM.on c i.pc ++ (r,4,[46,46]) :: bM.on A d.pc)) (aO ay (aO ay (aO ay (d.st)))) ⟨40,x,0,[i.ix,d.ix],0⟩ from by
  unfold ng
  try simp only
  rw [L.o,Bu.o,jX.o,Hp.o,o9.o,Y2.o,D.o,OO.o] <;> rfl)
 have y7:aN (([],3,[99,104,111,111,115,101]) :: ([32],1,x) :: bN [58] :: (bM.on c i.pc ++ (r,4,[46,46]) :: bM.on A d.pc)) ++ dF s=Y:=by
  rw [JV.o,List.append_nil];simp only [aN,qZ,bN];rw [K.o,N.o,← I.o] <;> simp only [List.nil_append,List.append_nil,List.append_assoc,List.cons_append]
 have GK:=O y7;clear y7;obtain⟨id,qP⟩:∃ id,Hid (bB.id (aO ay (aO ay (aO ay (d.st))))=id):=⟨_,O rfl⟩;rw [qP.o];have y:=(b.o.alloc (.cells #[.int .i64 id] 3)).row;have F:=O y;have cI:=H.o.blk.cell 2;clear y;go_wp2_with (at_builtin;go_loud (refine wpList_append_lies _ rfl (.tmp 234) (.tmp 236) 24 rfl 0 3 j0 (.int .i64 0) 1 8 Tryz.underlying24 Q U V W rfl (by decide) _ l.length (intCells l) rfl F.o ⟨Et.heap.size,0,none⟩ 1 1 [.int .i64 id] rfl rfl (cell_one_new _ _ _) (by intro u hu;simp at hu;subst hu;rfl) (by omega) (by simp only [maxLen];omega) (by omega) (aaL _) _ rfl ?_);intro gg b3 Tx t j B c6;obtain⟨E,C,GU,B9⟩:=WB H M rfl Ql b hw hg t j B;have b2:=E.cell 2;have c0:=E.frozen 2;clear t j B E)
 refine (bY g ay _ _ ((aO ay (aO ay (aO ay (d.st)))).put ⟨40,x,0,[i.ix,d.ix],0⟩) _ _ _ C.o).mono ?_;rintro e SH⟨rfl,Ig,h,m⟩;have H5:=O h;have L5:=O (GU.o.mv C.o m);have B5:=O (B9.o.trans (C.o.low m));clear h m;have X:=dG ay ((aO ay (aO ay (aO ay (d.st)))).put ⟨40,x,0,[i.ix,d.ix],0⟩);obtain⟨G,HG⟩:∃ G,Hid (bE ay ((aO ay (aO ay (aO ay (d.st)))).put ⟨40,x,0,[i.ix,d.ix],0⟩)=G):=⟨_,O rfl⟩;rw [HG.o] at X ⊢
 have b8:¬ 9223372036854775807 < Y.length+G.length:=by omega
 have b9:¬ 9223372036854775807 < Y.length+G.length+1:=by omega
 go_wp2_with fail;go_ret;exact Xh (a:=bL (([],3,[99,104,111,111,115,101]) :: ([32],1,x) :: bN [58] :: (bM.on c i.pc ++ (r,4,[46,46]) :: bM.on A d.pc)) (aO ay (aO ay (aO ay (d.st)))) ⟨40,x,0,[i.ix,d.ix],0⟩) (Z.o.trans HF.o) GK.o HG.o qP.o (by first|(rw [← ak];rfl)|(rw [← ak,← ak];rfl)) H5.o L5.o B5.o
theorem Vo {ay:Bool}{g:Nat}{iv:Value}{w0 w:World}{s:bB}{xs:List NV}{nv lv:Value}{f:List Int}(H:Hid (cO g ay iv w s xs nv lv))(b:Hid (iL w0 w xs iv f))(hw:w0.heap.size≤w.heap.size)(hg:g < w0.heap.size)(a7:f.length≤1000)(hn:s.ns.length≤100000)(L:s.nx % 7=1) :
  Calls Tryz.prog 72 #[.pointer (some ⟨g,0,none⟩)] w (ko g ay w0 w f (dz ay s)):=by
 obtain⟨Ai,ci,C⟩:=dh b.o.row;subst C;obtain⟨j0,D,E,F,I⟩:=info_parts gN;have Ql:=O fun (row:Option Nat) (w':World) (m:Mv g nv.ownBlock w row w')=>H.o.low m
 have M:=O (fI.refl (g:=g) (w:=w) (xs:=xs) (nv:=nv));have OQ:=O (cB.lt b.o.row);have MN:Int.tmod (s.nx:Int) 7=1:=by rw [Int.tmod_eq_emod_of_nonneg (by omega)];omega
 have J:=O (show bX ay s=zF ay (bn s.tl.nx) s.tl.tl by unfold bX;simp only;rw [if_neg (by omega),if_pos L]);have JV:=O (show dF s=[] from if_neg (fun h=>by omega));go_in
 go_wp2_with fail;refine (wP H M).mono ?_;clear H M;rintro e w1⟨lW,rfl,q1,H,M,R⟩
 replace b:=kp R b
 clear R;go_wp2_with fail;refine (wP H M).mono ?_;clear H M;rintro e w2⟨Ah,rfl,q2,H,M,R⟩
 replace b:=kp R b
 clear R;go_wp2_with fail;refine (N9 (s.tl.nx) _).mono ?_;rintro e w3⟨x,rfl,Hx,lx,rfl⟩;rw [Hx.o] at J
 clear L;obtain⟨n,k⟩:∃ m,m=(s.tl.tl).nx % 6:=⟨_,rfl⟩;have b3:Int.tmod ((s.tl.tl).nx:Int) 6=(n:Int):=by rw [Int.tmod_eq_emod_of_nonneg (by omega),k];omega
 have B:=O k.symm;have a0:n≤5:=by omega
 clear k;have b2:IntKind.i64.wrap (1+(n:Int))=((1+n:Nat):Int):=by rw [IntWalk.i64_in _ (by omega)];omega
 go_wp2_with fail;refine (wP H M).mono ?_;clear H M;rintro e w4⟨Ie,rfl,q4,H,M,R⟩
 replace b:=kp R b
 clear R;go_wp2_with fail;refine (prH H M (m:=1+n) (by omega) (by omega)).mono ?_;clear H M;rintro e w5⟨c,q,A5,c5,b0,Fu,Rt,rfl,jX,zO,a9,a1,N,LL,H,M,R⟩
 replace b:=kp R b
 clear R;have EW:¬ 9223372036854775807 < 5+x.length:=by omega
 have E5:¬ 9223372036854775807 < 5+x.length+2:=by omega
 have GA:¬ 9223372036854775807 < 5+x.length+2+q.length:=by omega
 have GZ:¬ 9223372036854775807 < 5+x.length+2+q.length+1:=by omega
 go_wp2_with fail;obtain⟨Y,A⟩:∃ Y:Bs,Hid ([116,121,112,101,32] ++ x ++ [61,123] ++ q ++ [125]=Y):=⟨_,O rfl⟩;rw [show (⟨#[116,121,112,101,32]⟩:ByteArray) ++ aM (x) ++ (⟨#[61,123]⟩:ByteArray) ++ aM (q) ++ (⟨#[125]⟩:ByteArray)=aM Y from by rw [← A.o] <;> (simp only [← ak];rfl)];have zR:Y.length≤10000000:=by rw [← A.o];simp only [aaO,List.length_cons,List.length_nil];omega
 refine (Xl H M LL (by omega)).mono ?_;clear H M;rintro e w6⟨b1,XB,rfl,H,M,R⟩
 replace b:=O (R.o _ _ _ OQ.o b.o)
 clear R
 have HF:=O (show zF ay x s.tl.tl=bL (([],3,[116,121,112,101]) :: ([32],1,x) :: bN [61] :: bN [123] :: (c.pc ++ [bN [125]])) (c.st) ⟨41,x,0,c.ix,0⟩ from by
  unfold zF
  try simp only
  rw [B.o,jX.o] <;> rfl)
 have S:aN (([],3,[116,121,112,101]) :: ([32],1,x) :: bN [61] :: bN [123] :: (c.pc ++ [bN [125]])) ++ dF s=Y:=by
  rw [JV.o,List.append_nil];simp only [aN,qZ,bN];rw [zO.o,← A.o] <;> simp only [List.nil_append,List.append_nil,List.append_assoc,List.cons_append]
 have W:=O S;clear S;obtain⟨id,Q⟩:∃ id,Hid (bB.id (c.st)=id):=⟨_,O rfl⟩;rw [Q.o];have j:=(b.o.alloc (.cells #[.int .i64 id] 3)).row;have y:=O j;have cI:=H.o.blk.cell 2;clear j;go_wp2_with (at_builtin;go_loud (refine wpList_append_lies _ rfl (.tmp 234) (.tmp 236) 24 rfl 0 3 j0 (.int .i64 0) 1 8 Tryz.underlying24 D E F I rfl (by decide) _ f.length (intCells f) rfl y.o ⟨w6.heap.size,0,none⟩ 1 1 [.int .i64 id] rfl rfl (cell_one_new _ _ _) (by intro u P;simp at P;subst P;rfl) (by omega) (by simp only [maxLen];omega) (by omega) (aaL _) _ rfl ?_);intro gg a3 Tx i d l a8;obtain⟨t,r,X,U⟩:=WB H M rfl Ql b hw hg i d l;have a2:=t.cell 2;have a6:=t.frozen 2;clear i d l t)
 refine (bY g ay _ _ ((c.st).put ⟨41,x,0,c.ix,0⟩) _ _ _ r.o).mono ?_;rintro e SH⟨rfl,Ig,h,m⟩;have Z:=O h;have L5:=O (X.o.mv r.o m);have T:=O (U.o.trans (r.o.low m));clear h m;have V:=dG ay ((c.st).put ⟨41,x,0,c.ix,0⟩);obtain⟨G,K⟩:∃ G,Hid (bE ay ((c.st).put ⟨41,x,0,c.ix,0⟩)=G):=⟨_,O rfl⟩;rw [K.o] at V ⊢
 have a4:¬ 9223372036854775807 < Y.length+G.length:=by omega
 have a5:¬ 9223372036854775807 < Y.length+G.length+1:=by omega
 go_wp2_with fail;go_ret;exact Xh (a:=bL (([],3,[116,121,112,101]) :: ([32],1,x) :: bN [61] :: bN [123] :: (c.pc ++ [bN [125]])) (c.st) ⟨41,x,0,c.ix,0⟩) (J.o.trans HF.o) W.o K.o Q.o (by first|(rw [← ak];rfl)|(rw [← ak,← ak];rfl)) Z.o L5.o T.o
def JL (g:Nat)(ay:Bool)(iv:Value)(w:World)(xs:List NV)(nv:Value)(q:Nat)(r:jy)(e:Ending)(w':World):Prop :=
 e=.returned (.tuple #[.string (aM (aN r.pc ++ (if q=7 then [32] else []))),.int .i64 r.ix])∧∃ xs' eO j4,cO g ay iv w' r.st xs' eO j4∧fI g w xs nv w' xs' eO
theorem RG {ay:Bool}{q:Nat}(F:1≤q)(G:q≤8)(r:q=7){g:Nat}{iv:Value}{w:World}{s:bB}{xs:List NV}{nv lv:Value}(H:Hid (cO g ay iv w s xs nv lv))(hn:s.ns.length≤600000) :
  Calls Tryz.prog 118 #[.pointer (some ⟨g,0,none⟩),.int .i64 (q:Int)] w (JL g ay iv w xs nv q (oO ay q s)):=by
 have M:=O (fI.refl (g:=g) (w:=w) (xs:=xs) (nv:=nv));have X:=O (SQ ay);have B:=O (Rf ay);subst r;have x:=sP 7 (by omega);rw [show ((7:Nat):Int)=7 from rfl] at x
 have n:=xP 7 (by omega);obtain⟨a,d⟩:∃ a,Hid (sg gZ 7=a):=⟨_,O rfl⟩;rw [d.o] at x n
 have J:(0:Int)≤((7:Nat):Int):=by omega
 have K:((7:Nat):Int) < 9:=by omega
 go_in
 go_wp2_with fail;refine (lsH H M X B (m:=0) (by omega) (by omega)).mono ?_;clear H M;rintro e w1⟨c,l,L,Z,xs1,gW,lW,rfl,f,i,W,C,I,D,k,H,M,-⟩;go_wp2_with fail;refine (uU H M).mono ?_;clear H M;rintro e w2⟨b,N,rfl,h,E,q2,H,M,R⟩
 replace k:=kp R k
 clear R;have Q:¬ 9223372036854775807 < 3+b.length:=by omega
 have P:¬ 9223372036854775807 < 3+b.length+a.length:=by omega
 have T:¬ 9223372036854775807 < 3+b.length+a.length+1:=by omega
 have U:¬ 9223372036854775807 < 3+b.length+a.length+1+l.length:=by omega
 go_wp2_with fail;obtain⟨Y,j⟩:∃ Y:Bs,Hid ([97,115,107] ++ b ++ a ++ [32] ++ l=Y):=⟨_,O rfl⟩;rw [show (⟨#[97,115,107]⟩:ByteArray) ++ aM (b) ++ aM (a) ++ (⟨#[32]⟩:ByteArray) ++ aM (l)=aM Y from by rw [← j.o] <;> (simp only [← ak];rfl)];have zR:Y.length≤10000000:=by rw [← j.o];simp only [aaO,List.length_cons,List.length_nil];omega
 refine (Xl H M k (by omega)).mono ?_;clear H M;rintro e w3⟨V,S,rfl,H,M,-⟩;go_wp2_with fail;go_ret2
 have y:=O (show oO ay 7 s=bL (([],3,[97,115,107]) :: (b,3,a) :: bM.on [32] c.pc) (aO ay (c.st)) ⟨46,[],((7:Nat):Int),c.ix,0⟩ from by
  unfold oO;simp only [↓reduceIte,Nat.reduceEqDiff];rw [f.o,d.o,h.o] <;> rfl)
 rw [y.o]
 refine⟨?_,_,_,_,H.o,M.o⟩
 show _=Ending.returned (.tuple #[.string (aM (aN (([],3,[97,115,107]) :: (b,3,a) :: bM.on [32] c.pc) ++ _)),.int .i64 (aO ay (c.st)).id])
 have A:aN (([],3,[97,115,107]) :: (b,3,a) :: bM.on [32] c.pc) ++ (if 7=7 then [32] else [])=Y:=by
  have t:=i.o;rw [C.o (by first | rfl | trivial)] at t ⊢
  rw [if_pos rfl,← j.o,← t];simp only [aN,bM.on];simp only [List.nil_append,List.append_nil,List.append_assoc,List.cons_append]
 rw [A];rfl
theorem Vk {ay:Bool}{q:Nat}(I:1≤q)(J:q≤8)(x:q=8){g:Nat}{iv:Value}{w:World}{s:bB}{xs:List NV}{nv lv:Value}(H:Hid (cO g ay iv w s xs nv lv))(hn:s.ns.length≤600000) :
  Calls Tryz.prog 118 #[.pointer (some ⟨g,0,none⟩),.int .i64 (q:Int)] w (JL g ay iv w xs nv q (oO ay q s)):=by
 have M:=O (fI.refl (g:=g) (w:=w) (xs:=xs) (nv:=nv));have X:=O (SQ ay);have D:=O (Rf ay);subst x;obtain⟨f,h⟩:∃ m,m=(s).nx % 4:=⟨_,rfl⟩;have T:Int.tmod ((s).nx:Int) 4=(f:Int):=by rw [Int.tmod_eq_emod_of_nonneg (by omega),h];omega
 have l:=O h.symm;have F:f≤3:=by omega
 clear h;have P:IntKind.i64.wrap (1+(f:Int))=((1+f:Nat):Int):=by rw [IntWalk.i64_in _ (by omega)];omega
 have y:=sP 8 (by omega);rw [show ((8:Nat):Int)=8 from rfl] at y
 have t:=xP 8 (by omega);obtain⟨a,d⟩:∃ a,Hid (sg gZ 8=a):=⟨_,O rfl⟩;rw [d.o] at y t
 have Q:(0:Int)≤((8:Nat):Int):=by omega
 have S:((8:Nat):Int) < 9:=by omega
 go_in
 go_wp2_with fail;refine (wP H M).mono ?_;clear H M;rintro e w1⟨lW,rfl,q1,H,M,-⟩;go_wp2_with fail;refine (lsH H M X D (m:=1+f) (by omega) (by omega)).mono ?_;clear H M;rintro e w2⟨c,r,U,c2,L,Qu,V,rfl,i,C,E,Z2,K,Tp,n,H,M,-⟩;go_wp2_with fail;refine (uU H M).mono ?_;clear H M;rintro e w3⟨b,MZ,rfl,j,G,q3,H,M,R⟩
 replace n:=kp R n
 clear R;have Z:¬ 9223372036854775807 < 3+b.length:=by omega
 have W:¬ 9223372036854775807 < 3+b.length+a.length:=by omega
 have GA:¬ 9223372036854775807 < 3+b.length+a.length+1:=by omega
 have GZ:¬ 9223372036854775807 < 3+b.length+a.length+1+r.length:=by omega
 go_wp2_with fail;obtain⟨Y,k⟩:∃ Y:Bs,Hid ([97,115,107] ++ b ++ a ++ [32] ++ r=Y):=⟨_,O rfl⟩;rw [show (⟨#[97,115,107]⟩:ByteArray) ++ aM (b) ++ aM (a) ++ (⟨#[32]⟩:ByteArray) ++ aM (r)=aM Y from by rw [← k.o] <;> (simp only [← ak];rfl)];have zR:Y.length≤10000000:=by rw [← k.o];simp only [aaO,List.length_cons,List.length_nil];omega
 refine (Xl H M n (by omega)).mono ?_;clear H M;rintro e w4⟨N,yH,rfl,H,M,-⟩;go_wp2_with fail;go_ret2
 have A:=O (show oO ay 8 s=bL (([],3,[97,115,107]) :: (b,3,a) :: bM.on [32] c.pc) (aO ay (c.st)) ⟨46,[],((8:Nat):Int),c.ix,0⟩ from by
  unfold oO;simp only [↓reduceIte,Nat.reduceEqDiff];rw [l.o,i.o,d.o,j.o] <;> rfl)
 rw [A.o]
 refine⟨?_,_,_,_,H.o,M.o⟩
 show _=Ending.returned (.tuple #[.string (aM (aN (([],3,[97,115,107]) :: (b,3,a) :: bM.on [32] c.pc) ++ _)),.int .i64 (aO ay (c.st)).id])
 have B:aN (([],3,[97,115,107]) :: (b,3,a) :: bM.on [32] c.pc) ++ (if 8=7 then [32] else [])=Y:=by
  rw [if_neg (by omega),List.append_nil,← k.o];simp only [aN];rw [E.o (by omega)];simp only [List.nil_append,List.append_nil,List.append_assoc,List.cons_append]
 rw [B];rfl
theorem pa_one {ay:Bool}{q:Nat}(F:1≤q)(G:q≤8)(r:¬ q=7)(f:¬ q=8){g:Nat}{iv:Value}{w:World}{s:bB}{xs:List NV}{nv lv:Value}(H:Hid (cO g ay iv w s xs nv lv))(hn:s.ns.length≤600000) :
  Calls Tryz.prog 118 #[.pointer (some ⟨g,0,none⟩),.int .i64 (q:Int)] w (JL g ay iv w xs nv q (oO ay q s)):=by
 have M:=O (fI.refl (g:=g) (w:=w) (xs:=xs) (nv:=nv));have X:=O (SQ ay);have A:=O (Rf ay);have z7:¬ (q:Int)=7:=by omega
 have C:¬ (q:Int)=8:=by omega
 have I:=sP q (by omega);have n:=xP q (by omega);obtain⟨a,d⟩:∃ a,Hid (sg gZ q=a):=⟨_,O rfl⟩;rw [d.o] at I n
 have K:(0:Int)≤((q:Nat):Int):=by omega
 have L:((q:Nat):Int) < 9:=by omega
 go_in
 go_wp2_with fail;refine (lsH H M X A (m:=1) (by omega) (by omega)).mono ?_;clear H M;rintro e w1⟨c,l,N,c1,xs1,gW,lW,rfl,h,y,B,Z,J,D,k,H,M,-⟩;go_wp2_with fail;refine (uU H M).mono ?_;clear H M;rintro e w2⟨b,P,rfl,i,E,q2,H,M,R⟩
 replace k:=kp R k
 clear R;have S:¬ 9223372036854775807 < 3+b.length:=by omega
 have Q:¬ 9223372036854775807 < 3+b.length+a.length:=by omega
 have U:¬ 9223372036854775807 < 3+b.length+a.length+1:=by omega
 have V:¬ 9223372036854775807 < 3+b.length+a.length+1+l.length:=by omega
 go_wp2_with fail;obtain⟨Y,j⟩:∃ Y:Bs,Hid ([97,115,107] ++ b ++ a ++ [32] ++ l=Y):=⟨_,O rfl⟩;rw [show (⟨#[97,115,107]⟩:ByteArray) ++ aM (b) ++ aM (a) ++ (⟨#[32]⟩:ByteArray) ++ aM (l)=aM Y from by rw [← j.o] <;> (simp only [← ak];rfl)];have zR:Y.length≤10000000:=by rw [← j.o];simp only [aaO,List.length_cons,List.length_nil];omega
 refine (Xl H M k (by omega)).mono ?_;clear H M;rintro e w3⟨W,T,rfl,H,M,-⟩;go_wp2_with fail;go_ret2
 have t:=O (show oO ay q s=bL (([],3,[97,115,107]) :: (b,3,a) :: bM.on [32] c.pc) (aO ay (c.st)) ⟨46,[],((q:Nat):Int),c.ix,0⟩ from by
  unfold oO;simp only
  rw [if_neg r,if_neg f,if_neg f,h.o,d.o,i.o] <;> rfl)
 rw [t.o]
 refine⟨?_,_,_,_,H.o,M.o⟩
 show _=Ending.returned (.tuple #[.string (aM (aN (([],3,[97,115,107]) :: (b,3,a) :: bM.on [32] c.pc) ++ _)),.int .i64 (aO ay (c.st)).id])
 have x:aN (([],3,[97,115,107]) :: (b,3,a) :: bM.on [32] c.pc) ++ (if q=7 then [32] else [])=Y:=by
  rw [if_neg (by omega),List.append_nil,← j.o];simp only [aN];rw [B.o (by omega)];simp only [List.nil_append,List.append_nil,List.append_assoc,List.cons_append]
 rw [x];rfl
theorem akH {g:Nat}{ay:Bool}{iv DL nv lv:Value}{w0 w:World}{s:bB}{Em xs:List NV}(H:Hid (cO g ay iv w s xs nv lv))(M:Hid (fI g w0 Em DL w xs nv)){q:Nat}(d:1≤q)(c:q≤8)(i:s.ns.length≤600000):Calls Tryz.prog 118 #[.pointer (some ⟨g,0,none⟩),.int .i64 (q:Int)] w fun e f=>∃ a Y b eO j,e=.returned (.tuple #[.string (aM Y),.int .i64 a.ix])∧Hid (oO ay q s=a)∧Hid (aN a.pc ++ (if q=7 then [32] else [])=Y)∧Y.length≤20000∧Hid (cO g ay iv f a.st b eO j)∧Hid (fI g w0 Em DL f b eO)∧Hid (Kp w xs f b):=by
 have k:Calls Tryz.prog 118 #[.pointer (some ⟨g,0,none⟩),.int .i64 (q:Int)] w (JL g ay iv w xs nv q (oO ay q s)):=by
  by_cases h7:q=7
  ·exact RG d c h7 H i
  by_cases h8:q=8
  ·exact Vk d c h8 H i
  ·exact pa_one d c h7 h8 H i
 refine k.mono ?_;rintro e f ⟨rfl,b,eO,j,h,m⟩
 refine⟨_,_,b,eO,j,rfl,O rfl,O rfl,?_,O h,O (M.o.trans m),O fun w1 v ks L=>L.mw H.o m⟩
 have h1:(aN (oO ay q s).pc).length≤11000:=(OY ay q c s).1;have h2:(if q=7 then [32] else ([]:Bs)).length≤1:=by split <;> simp
 rw [aaO];omega
end Go.Proofs.YthepmkjggfijoaaGreatDoor
