/-
  A part of the proof.
-/
import Derived.Test.YthepmkjggfijoaaGreatDoorSA
import Derived.Test.YthepmkjggfijoaaGreatDoorL07
import Derived.Test.YthepmkjggfijoaaGreatDoorL08
set_option linter.all false
set_option maxRecDepth 100000
set_option maxHeartbeats 4000000
namespace Go.Proofs.YthepmkjggfijoaaGreatDoor
open Go.RowKit Mist
attribute [local go_sem] aj aH aS aB ak
theorem Em {v u:Value}{n:Nat}(h1:∀ b,u.ownBlock=some b→b < n)(h2:∀ b,v.ownBlock=some b→n≤b):u.ownBlock=none∨u.ownBlock ≠ v.ownBlock:=by
 rcases h9:u.ownBlock with _ | b
 ·exact .inl rfl
 ·right
  intro e
  have:=h1 b h9
  have:=h2 b e.symm
  omega
section
variable {g:Nat} {ay:Bool} {iv lv:Value} {w0 w w1:World} {s:bB} {xs xs1:List NV} {nv gW:Value} {v u:Value} {ks js:List Int}
theorem jA.farP (h:jA w0 w xs v ks){b:Nat}{cs:Array Value}(a:aC w b 81 cs)(i:Nat)(u:Value):jA w0 (w.setCell ⟨b,i,none⟩ u) xs v ks:=⟨ownsRow_setCell_other h.row (aT h.row a (by decide)) u,h.lo,h.far⟩
theorem jA.base (h:jA w1 w xs v ks)(h0:w0.heap.size≤w1.heap.size):jA w0 w xs v ks:=⟨h.row,fun b a=>Nat.le_trans h0 (h.lo b a),h.far⟩
theorem jA.keep (h:jA w0 w xs v ks)(b:w.grownBy w1 u.ownBlock)(a:v.ownBlock=none∨v.ownBlock ≠ u.ownBlock):jA w0 w1 xs v ks:=⟨World.ownsRow.kept h.row b a,h.lo,h.far⟩
theorem jA.grows (h:jA w0 w xs v ks){a cap:Nat}(q:dM g ay iv w s xs nv lv)(d:w1.ownsRow 0 3 1 (.slice (some ⟨a,0,none⟩) (ks.length+js.length) cap) (ks.length+js.length) (intCells ks ++ intCells js))(c:v.ownBlock=some a∨a=w.heap.size)(h0:w0.heap.size≤w.heap.size):jA w0 w1 xs (.slice (some ⟨a,0,none⟩) (ks.length+js.length) cap) (ks ++ js):=by
 refine⟨?_,fun b f=>?_,fun x i=>?_⟩
 ·unfold cB;rw [aaO,show intCells (ks ++ js)=intCells ks ++ intCells js by unfold intCells;rw [List.map_append]];exact d
 ·have f:a=b:=by simpa [Value.ownBlock] using f
  subst f;rcases c with e | e
  ·exact h.lo _ e
  ·omega
 ·rcases c with e | e
  ·have:=h.far x i
   rw [e] at this
   simpa [Value.ownBlock] using this
  ·rcases h9:x.2.ownBlock with _ | b
   ·exact .inl rfl
   ·right
    intro j;have h1:=cB.lt (q.kids x i) b h9;simp [Value.ownBlock] at j
    omega
theorem dM.items (h:dM g ay iv w s xs nv lv)(AY:Value):dM g ay AY (w.setCell ⟨g,2,none⟩ AY) s xs nv lv :=
 have m:Mv g nv.ownBlock w nv.ownBlock (w.setCell ⟨g,2,none⟩ AY):=Mv.d_ h.blk 2 AY
 ⟨(by have:=h.blk.d_ 2 AY;simpa using this),h.seed.below (h.low m) (aaK h.lt),ownsRow_setCell_other h.own (aT h.own h.blk (by decide)) _,fun x a=>h.l6 m (h.kids x a),h.ns,h.pow.on (h.low m)⟩
end
def lg (g:Nat)(ay:Bool)(w0 w:World)(its:List Int)(r:j4)(e:Ending)(w':World):Prop :=
 e=.returned (.string (aM (aN r.pc)))∧∃ AY xs' eO kZ,dM g ay AY w' r.st xs' eO kZ∧jA w0 w' xs' AY (its ++ [r.ix])∧Below g w w'
theorem SA (ay:Bool):JC ay (bA ay 4) 700000 (.int .i64 4) :=
 ⟨fun g iv w s xs nv lv h a=>Lr ay g iv w s xs nv lv h (by omega),CV (ko ay 4) (by decide) (by decide),fun s=>gX ay 4 s⟩
theorem Sz (ay:Bool):JC ay (bA ay 3) 750000 (.int .i64 3) :=
 ⟨fun g iv w s xs nv lv h a=>vY ay g iv w s xs nv lv h (by omega),CV (ko ay 3) (by decide) (by decide),fun s=>gX ay 3 s⟩
theorem Qp (ay:Bool):LsC ay (bA ay 3) 700000 (.int .i64 4):=fun m a g iv w s xs nv lv h b =>
 Bf ay 3 750000 (by omega) (vY ay) (by decide) (by decide) m a g iv w s xs nv lv h (by omega)
section
variable {g:Nat} {ay:Bool} {iv Da nv lv:Value} {w0 w:World} {s:bB} {DV xs:List NV} (H:Hid (dM g ay iv w s xs nv lv)) (M:Hid (iK g w0 DV Da w xs nv))
include H M
theorem kdH (j:s.ns.length≤800000):Calls Tryz.prog 116 #[.pointer (some ⟨g,0,none⟩),.int .i64 2] w fun e c=>∃ a T b eO d,e=.returned (.tuple #[.string (aM T),.int .i64 a.ix])∧Hid (bF ay 2 s=a)∧Hid (aN a.pc=T)∧Hid (∀ u,aN (bN.on u a.pc)=u ++ T)∧T.length≤100∧a.st.ns.length≤s.ns.length+3∧Hid (dM g ay iv c a.st b eO d)∧Hid (iK g w0 DV Da c b eO)∧Hid (Kp w xs c b):=by
 refine (vo ay g iv _ s _ _ _ H.o j).mono ?_;rintro e c ⟨rfl,b,eO,d,h,m⟩;obtain⟨f,i⟩:=rO ay 2 s;exact⟨_,_,b,eO,d,rfl,O rfl,O rfl,O (xQ (pQ ay 2 s)),Nat.le_trans f (by omega),i,O h,O (M.o.trans m),O fun w1 v ks L=>L.mw H.o m⟩
theorem nbH {n:Int}(h0:-140 < n)(h1:n < 140)(j:s.ns.length≤900000):Calls Tryz.prog 112 #[.pointer (some ⟨g,0,none⟩),.int .i64 n] w fun e c=>∃ a T b eO d,e=.returned (.tuple #[.string (aM T),.int .i64 a.ix])∧Hid (bX n s=a)∧Hid (aN a.pc=T)∧Hid (∀ u,aN (bN.on u a.pc)=u ++ T)∧T.length≤100∧a.st.ns.length≤s.ns.length+1∧Hid (dM g ay iv c a.st b eO d)∧Hid (iK g w0 DV Da c b eO)∧Hid (Kp w xs c b):=by
 refine (Di ay n (by omega) (by omega) g iv _ s _ _ _ H.o j).mono ?_;rintro e c ⟨rfl,b,eO,d,h,m⟩;obtain⟨f,i⟩:=GZ n h0 h1 s;exact⟨_,_,b,eO,d,rfl,O rfl,O rfl,O (on_ne (Zk n)),Nat.le_trans f (by omega),Nat.le_of_eq i,O h,O (M.o.trans m),O fun w1 v ks L=>L.mw H.o m⟩
theorem prH {m:Nat}(t:m≤6)(x:s.ns.length≤700000):Calls Tryz.prog 115 #[.pointer (some ⟨g,0,none⟩),.int .i64 (m:Int)] w fun e d=>∃ r T A c a eO f,e=.returned (.tuple #[.string (aM T),.slice A r.ix.length c])∧Hid (bE ay m ⟨[],[],s⟩=r)∧Hid (aN r.pc=T)∧T.length≤500∧r.st.ns.length≤s.ns.length+30∧r.ix.length≤6∧Hid (jA w0 d a (.slice A r.ix.length c) r.ix)∧Hid (dM g ay iv d r.st a eO f)∧Hid (iK g w0 DV Da d a eO)∧Hid (Kp w xs d a):=by
 refine (Dt ay 700000 (by omega) m t g iv _ s _ _ _ H.o x).mono ?_;rintro e d ⟨A,c,a,eO,f,rfl,l,h,k⟩;obtain⟨i,j,n⟩:=uU ay m ⟨[],[],s⟩;rw [eU] at i
 have j:(bE ay m ⟨[],[],s⟩).st.ns.length≤s.ns.length+m * 4:=j;have n:(bE ay m ⟨[],[],s⟩).ix.length=0+m:=n;exact⟨_,_,A,c,a,eO,f,rfl,O rfl,O rfl,Nat.le_trans i (by omega),by omega,by omega,O ⟨l.row,fun b q=>Nat.le_trans M.o.size (l.lo b q),l.far⟩,O h,O (M.o.trans k),O fun w1 v ks L=>L.mw H.o k⟩
theorem V4 {e:Option Addr}{f c cap:Nat}{id:Int}{its:List Int}{j d:World}(C:iv=.slice e its.length f)(B:Hid (∀ (row:Option Nat) (r:World),Mv g Da.ownBlock w0 row r→Below g w0 r))(L:Hid (jA j w xs (.slice e its.length f) its))(F:j.heap.size≤w0.heap.size)(D:g < j.heap.size)
  (i:d.ownsRow 0 3 1 (.slice (some ⟨c,0,none⟩) (its.length+1) cap) (its.length+1) (intCells its ++ [.int .i64 id])) (a:(w.alloc (.cells #[.int .i64 id] 3)).grownBy d (Value.slice e its.length f).ownBlock) (n:(Value.slice e its.length f).ownBlock=some c∨c=(w.alloc (.cells #[.int .i64 id] 3)).heap.size) :
  aC d g 81 #[lv,nv,.slice e its.length f,.bool ay]∧Hid (dM g ay (.slice (some ⟨c,0,none⟩) (its.length+1) cap) (d.setCell ⟨g,2,none⟩ (.slice (some ⟨c,0,none⟩) (its.length+1) cap)) s xs nv lv)∧Hid (jA j (d.setCell ⟨g,2,none⟩ (.slice (some ⟨c,0,none⟩) (its.length+1) cap)) xs (.slice (some ⟨c,0,none⟩) (its.length+1) cap) (its ++ [id]))∧Hid (Below g w0 (d.setCell ⟨g,2,none⟩ (.slice (some ⟨c,0,none⟩) (its.length+1) cap))):=by
 subst C;have E:=M.o.size;have q:=B.o _ _ M.o.mv;have m:=L.o.alloc (.cells #[.int .i64 id] 3);have l:=H.o.alloc (.cells #[.int .i64 id] 3);have y:=q.alloc (by have:=q.size;have:=H.o.lt;omega) (.cells #[.int .i64 id] 3);have h:=fun b A=>aaK (aaW D (m.lo b A))
 have x:=m.grow l i n (Nat.le_trans F (by simp;omega));have k:=l.grow m a h;have t:=y.grown a (aaK l.lt) h;exact⟨k.blk,O (k.items _),O (x.farP k.blk 2 _),O (dx t (aaJ _))⟩
end
theorem V8 {g:Nat}{ay:Bool}{w0 w c:World}{s:bB}{its:List Int}{a:j4}{Y G:Bs}{t:ByteArray}{iv nv lv:Value}{xs:List NV}{id:Int}(f:cO ay s=a)(e:aN a.pc ++ dY s=Y)(d:bG ay a.st=G)(hi:a.ix=id)(i:t=aM (Y ++ G ++ [59]))(h:dM g ay iv c (aO ay a.st) xs nv lv)(l:jA w0 c xs iv (its ++ [id]))(b:Below g w c):lg g ay w0 w its (dH ay s) (.returned (.string t)) c:=by
 subst f d hi
 refine⟨?_,iv,xs,nv,lv,h,l,b⟩
 rw [i,← e]
 show _=Ending.returned (.string (aM (aN ((cO ay s).pc ++ [(dY s ++ bG ay (cO ay s).st,4,[59])]))))
 rw [qZ];simp only [aN];simp only [List.append_nil,List.append_assoc]
theorem uq (r:Nat)(h:r < 9)(w:World):Sem.run Tryz.prog (Instr.index 164 (.agg #[.string ⟨#[]⟩,.string ⟨#[109,117,115,116]⟩,.string ⟨#[109,97,121]⟩,.string ⟨#[99,111,117,110,116]⟩,.string ⟨#[98,111,117,110,100,115]⟩,.string ⟨#[118,97,108,117,101,115]⟩,.string ⟨#[119,104,121]⟩,.string ⟨#[98,108,97,109,101]⟩,.string ⟨#[108,111,111,107]⟩]) (.int .i64 r)) w=.ok (.string (aM (sg iB r))) w:=by
 obtain rfl | rfl | rfl | rfl | rfl | rfl | rfl | rfl | rfl:r=0∨r=1∨r=2∨r=3∨r=4∨r=5∨r=6∨r=7∨r=8:=by omega
 all_goals kernel_rfl
theorem U9 {ay:Bool}{g:Nat}{iv:Value}{w0 w:World}{s:bB}{xs:List NV}{nv lv:Value}{its:List Int}(H:Hid (dM g ay iv w s xs nv lv))(c:Hid (jA w0 w xs iv its))(hw:w0.heap.size≤w.heap.size)(hg:g < w0.heap.size)(a6:its.length≤1000)(hn:s.ns.length≤100000)(K:s.nx % 7=3) :
  Calls Tryz.prog 72 #[.pointer (some ⟨g,0,none⟩)] w (lg g ay w0 w its (dH ay s)):=by
 obtain⟨Ai,ci,y⟩:=dh c.o.row;subst y;obtain⟨j0,A,B,C,D⟩:=info_parts gN;have Ql:=O fun (row:Option Nat) (w':World) (m:Mv g nv.ownBlock w row w')=>H.o.low m
 have M:=O (iK.refl (g:=g) (w:=w) (xs:=xs) (nv:=nv));have NU:=O (cB.lt c.o.row);obtain⟨E,J⟩:∃ E,Hid (bA ay 4=E):=⟨_,O rfl⟩;have X:=O (SA ay);rw [J.o] at X
 have L6:Int.tmod (s.nx:Int) 7=3:=by rw [Int.tmod_eq_emod_of_nonneg (by omega)];omega
 have F:=O (show cO ay s=mG ay (aY s.tl.nx) s.tl.tl by unfold cO;simp only;rw [if_neg (by omega),if_neg (by omega),if_neg (by omega),if_pos K]);have Jk:=O (show dY s=[] from if_neg (fun h=>by omega));go_in
 go_wp2_with fail;refine (xP H M).mono ?_;clear H M;rintro e w1⟨nX,rfl,q1,H,M,R⟩
 replace c:=kp R c
 clear R;go_wp2_with fail;refine (xP H M).mono ?_;clear H M;rintro e w2⟨Ap,rfl,q2,H,M,R⟩
 replace c:=kp R c
 clear R;go_wp2_with fail;refine (Nk (s.tl.nx) _).mono ?_;rintro e w3⟨x,rfl,Hx,lx,rfl⟩;rw [Hx.o] at F
 clear K;go_wp2_with fail;refine (Gq H M X (by omega)).mono ?_;clear H M;rintro e w4⟨b,t,a9,yH,GU,rfl,fq,Ji,SE,a8,a0,H,M,R⟩
 replace c:=kp R c
 clear R;have qF:¬ 9223372036854775807 < 4+x.length:=by omega
 have tq:¬ 9223372036854775807 < 4+x.length+1:=by omega
 go_wp2_with fail;refine (vD H M).mono ?_;clear H M;rintro e w5⟨j,QB,rfl,NT,a5,q5,H,M,R⟩
 replace c:=kp R c
 clear R;clear qF tq;have EK:¬ 9223372036854775807 < 4+x.length:=by omega
 have EM:¬ 9223372036854775807 < 4+x.length+1:=by omega
 have Gp:¬ 9223372036854775807 < 4+x.length+1+j.length:=by omega
 have Gy:¬ 9223372036854775807 < 4+x.length+1+j.length+t.length:=by omega
 go_wp2_with fail;obtain⟨Y,r⟩:∃ Y:Bs,Hid ([108,101,116,32] ++ x ++ [61] ++ j ++ t=Y):=⟨_,O rfl⟩;rw [show (⟨#[108,101,116,32]⟩:ByteArray) ++ aM (x) ++ (⟨#[61]⟩:ByteArray) ++ aM (j) ++ aM (t)=aM Y from by rw [← r.o] <;> (simp only [← ak];rfl)];have zR:Y.length≤10000000:=by rw [← r.o];simp only [aaO,List.length_cons,List.length_nil];omega
 refine (SI H M [b.ix] (by simp) (by omega)).mono ?_;clear H M;rintro e w6⟨b0,XB,rfl,H,M,R⟩
 replace c:=kp R c
 clear R
 have Z:=O (show mG ay x s.tl.tl=bJ (([],3,[108,101,116]) :: ([32],1,x) :: bR [61] :: bN.on j b.pc) (aO ay (b.st)) ⟨43,x,0,[b.ix],0⟩ from by
  unfold mG
  try simp only
  rw [J.o,fq.o,NT.o] <;> rfl)
 have P:aN (([],3,[108,101,116]) :: ([32],1,x) :: bR [61] :: bN.on j b.pc) ++ dY s=Y:=by
  rw [Jk.o,List.append_nil];simp only [aN,qZ,bR];rw [SE.o,← r.o] <;> simp only [List.nil_append,List.append_nil,List.append_assoc,List.cons_append]
 have U:=O P;clear P;obtain⟨id,N⟩:∃ id,Hid (bB.id (aO ay (b.st))=id):=⟨_,O rfl⟩;rw [N.o];have i:=(c.o.alloc (.cells #[.int .i64 id] 3)).row;have q:=O i;have cI:=H.o.blk.cell 2;clear i;go_wp2_with (at_builtin;go_loud (refine wpList_append_lies _ rfl (.tmp 234) (.tmp 236) 24 rfl 0 3 j0 (.int .i64 0) 1 8 Tryz.underlying24 A B C D rfl (by decide) _ its.length (intCells its) rfl q.o ⟨w6.heap.size,0,none⟩ 1 1 [.int .i64 id] rfl rfl (cell_one_new _ _ _) (by intro u L;simp at L;subst L;rfl) (by omega) (by simp only [maxLen];omega) (by omega) (aaL _) _ rfl ?_);intro gg a2 Tx f d k a7;obtain⟨n,l,V,S⟩:=V4 H M rfl Ql c hw hg f d k;have a1:=n.cell 2;have a3:=n.frozen 2;clear f d k n)
 refine (dF g ay _ _ ((aO ay (b.st)).put ⟨43,x,0,[b.ix],0⟩) _ _ _ l.o).mono ?_;rintro e Sn⟨rfl,GV,h,m⟩;have W:=O h;have L5:=O (V.o.mv l.o m);have Q:=O (S.o.trans (l.o.low m));clear h m;have T:=eD ay ((aO ay (b.st)).put ⟨43,x,0,[b.ix],0⟩);obtain⟨G,I⟩:∃ G,Hid (bG ay ((aO ay (b.st)).put ⟨43,x,0,[b.ix],0⟩)=G):=⟨_,O rfl⟩;rw [I.o] at T ⊢
 have Yw:¬ 9223372036854775807 < Y.length+G.length:=by omega
 have YG:¬ 9223372036854775807 < Y.length+G.length+1:=by omega
 go_wp2_with fail;go_ret;exact V8 (a:=bJ (([],3,[108,101,116]) :: ([32],1,x) :: bR [61] :: bN.on j b.pc) (aO ay (b.st)) ⟨43,x,0,[b.ix],0⟩) (F.o.trans Z.o) U.o I.o N.o (by first|(rw [← ak];rfl)|(rw [← ak,← ak];rfl)) W.o L5.o Q.o
theorem H8 {ay:Bool}{g:Nat}{iv:Value}{w0 w:World}{s:bB}{xs:List NV}{nv lv:Value}{its:List Int}(H:Hid (dM g ay iv w s xs nv lv))(c:Hid (jA w0 w xs iv its))(hw:w0.heap.size≤w.heap.size)(hg:g < w0.heap.size)(a6:its.length≤1000)(hn:s.ns.length≤100000)(K:s.nx % 7=4) :
  Calls Tryz.prog 72 #[.pointer (some ⟨g,0,none⟩)] w (lg g ay w0 w its (dH ay s)):=by
 obtain⟨Ai,ci,y⟩:=dh c.o.row;subst y;obtain⟨j0,A,B,C,D⟩:=info_parts gN;have Ql:=O fun (row:Option Nat) (w':World) (m:Mv g nv.ownBlock w row w')=>H.o.low m
 have M:=O (iK.refl (g:=g) (w:=w) (xs:=xs) (nv:=nv));have NU:=O (cB.lt c.o.row);obtain⟨E,J⟩:∃ E,Hid (bA ay 4=E):=⟨_,O rfl⟩;have X:=O (SA ay);rw [J.o] at X
 have L6:Int.tmod (s.nx:Int) 7=4:=by rw [Int.tmod_eq_emod_of_nonneg (by omega)];omega
 have F:=O (show cO ay s=mH ay (aY s.tl.nx) s.tl.tl by unfold cO;simp only;rw [if_neg (by omega),if_neg (by omega),if_neg (by omega),if_neg (by omega),if_pos K]);have Jk:=O (show dY s=[] from if_neg (fun h=>by omega));go_in
 go_wp2_with fail;refine (xP H M).mono ?_;clear H M;rintro e w1⟨nX,rfl,q1,H,M,R⟩
 replace c:=kp R c
 clear R;go_wp2_with fail;refine (xP H M).mono ?_;clear H M;rintro e w2⟨Ap,rfl,q2,H,M,R⟩
 replace c:=kp R c
 clear R;go_wp2_with fail;refine (Nk (s.tl.nx) _).mono ?_;rintro e w3⟨x,rfl,Hx,lx,rfl⟩;rw [Hx.o] at F
 clear K;go_wp2_with fail;refine (Gq H M X (by omega)).mono ?_;clear H M;rintro e w4⟨b,t,a9,yH,GU,rfl,fq,Ji,SE,a8,a0,H,M,R⟩
 replace c:=kp R c
 clear R;have qF:¬ 9223372036854775807 < 8+x.length:=by omega
 go_wp2_with fail;refine (vD H M).mono ?_;clear H M;rintro e w5⟨j,QB,rfl,NT,a5,q5,H,M,R⟩
 replace c:=kp R c
 clear R;clear qF;have EK:¬ 9223372036854775807 < 8+x.length:=by omega
 have EM:¬ 9223372036854775807 < 8+x.length+j.length:=by omega
 have Gp:¬ 9223372036854775807 < 8+x.length+j.length+1:=by omega
 have Gy:¬ 9223372036854775807 < 8+x.length+j.length+1+t.length:=by omega
 go_wp2_with fail;obtain⟨Y,r⟩:∃ Y:Bs,Hid ([111,98,115,101,114,118,101,32] ++ x ++ j ++ [58] ++ t=Y):=⟨_,O rfl⟩;rw [show (⟨#[111,98,115,101,114,118,101,32]⟩:ByteArray) ++ aM (x) ++ aM (j) ++ (⟨#[58]⟩:ByteArray) ++ aM (t)=aM Y from by rw [← r.o] <;> (simp only [← ak];rfl)];have zR:Y.length≤10000000:=by rw [← r.o];simp only [aaO,List.length_cons,List.length_nil];omega
 refine (SI H M [b.ix] (by simp) (by omega)).mono ?_;clear H M;rintro e w6⟨b0,XB,rfl,H,M,R⟩
 replace c:=kp R c
 clear R
 have Z:=O (show mH ay x s.tl.tl=bJ (([],3,[111,98,115,101,114,118,101]) :: ([32],1,x) :: (j,4,[58]) :: b.pc) (aO ay (b.st)) ⟨44,x,0,[b.ix],0⟩ from by
  unfold mH
  try simp only
  rw [J.o,fq.o,NT.o] <;> rfl)
 have P:aN (([],3,[111,98,115,101,114,118,101]) :: ([32],1,x) :: (j,4,[58]) :: b.pc) ++ dY s=Y:=by
  rw [Jk.o,List.append_nil];simp only [aN,qZ,bR];rw [Ji.o,← r.o] <;> simp only [List.nil_append,List.append_nil,List.append_assoc,List.cons_append]
 have U:=O P;clear P;obtain⟨id,N⟩:∃ id,Hid (bB.id (aO ay (b.st))=id):=⟨_,O rfl⟩;rw [N.o];have i:=(c.o.alloc (.cells #[.int .i64 id] 3)).row;have q:=O i;have cI:=H.o.blk.cell 2;clear i;go_wp2_with (at_builtin;go_loud (refine wpList_append_lies _ rfl (.tmp 234) (.tmp 236) 24 rfl 0 3 j0 (.int .i64 0) 1 8 Tryz.underlying24 A B C D rfl (by decide) _ its.length (intCells its) rfl q.o ⟨w6.heap.size,0,none⟩ 1 1 [.int .i64 id] rfl rfl (cell_one_new _ _ _) (by intro u L;simp at L;subst L;rfl) (by omega) (by simp only [maxLen];omega) (by omega) (aaL _) _ rfl ?_);intro gg a2 Tx f d k a7;obtain⟨n,l,V,S⟩:=V4 H M rfl Ql c hw hg f d k;have a1:=n.cell 2;have a3:=n.frozen 2;clear f d k n)
 refine (dF g ay _ _ ((aO ay (b.st)).put ⟨44,x,0,[b.ix],0⟩) _ _ _ l.o).mono ?_;rintro e Sn⟨rfl,GV,h,m⟩;have W:=O h;have L5:=O (V.o.mv l.o m);have Q:=O (S.o.trans (l.o.low m));clear h m;have T:=eD ay ((aO ay (b.st)).put ⟨44,x,0,[b.ix],0⟩);obtain⟨G,I⟩:∃ G,Hid (bG ay ((aO ay (b.st)).put ⟨44,x,0,[b.ix],0⟩)=G):=⟨_,O rfl⟩;rw [I.o] at T ⊢
 have Yw:¬ 9223372036854775807 < Y.length+G.length:=by omega
 have YG:¬ 9223372036854775807 < Y.length+G.length+1:=by omega
 go_wp2_with fail;go_ret;exact V8 (a:=bJ (([],3,[111,98,115,101,114,118,101]) :: ([32],1,x) :: (j,4,[58]) :: b.pc) (aO ay (b.st)) ⟨44,x,0,[b.ix],0⟩) (F.o.trans Z.o) U.o I.o N.o (by first|(rw [← ak];rfl)|(rw [← ak,← ak];rfl)) W.o L5.o Q.o
theorem Ie {ay:Bool}{g:Nat}{iv:Value}{w0 w:World}{s:bB}{xs:List NV}{nv lv:Value}{its:List Int}(H:Hid (dM g ay iv w s xs nv lv))(b:Hid (jA w0 w xs iv its))(hw:w0.heap.size≤w.heap.size)(hg:g < w0.heap.size)(a4:its.length≤1000)(hn:s.ns.length≤100000)(E:s.nx % 7=5) :
  Calls Tryz.prog 72 #[.pointer (some ⟨g,0,none⟩)] w (lg g ay w0 w its (dH ay s)):=by
 obtain⟨Ai,ci,r⟩:=dh b.o.row;subst r;obtain⟨j0,t,y,A,B⟩:=info_parts gN;have Z:=O fun (row:Option Nat) (w':World) (m:Mv g nv.ownBlock w row w')=>H.o.low m
 have M:=O (iK.refl (g:=g) (w:=w) (xs:=xs) (nv:=nv));have NU:=O (cB.lt b.o.row);have L6:Int.tmod (s.nx:Int) 7=5:=by rw [Int.tmod_eq_emod_of_nonneg (by omega)];omega
 have C:=O (show cO ay s=mK ay (aY s.tl.nx) s.tl.tl by unfold cO;simp only;rw [if_neg (by omega),if_neg (by omega),if_neg (by omega),if_neg (by omega),if_neg (by omega),if_pos E]);have W:=O (show dY s=[] from if_neg (fun h=>by omega));go_in
 go_wp2_with fail;refine (xP H M).mono ?_;clear H M;rintro e w1⟨nX,rfl,q1,H,M,R⟩
 replace b:=kp R b
 clear R;go_wp2_with fail;refine (xP H M).mono ?_;clear H M;rintro e w2⟨Ap,rfl,q2,H,M,R⟩
 replace b:=kp R b
 clear R;go_wp2_with fail;refine (Nk (s.tl.nx) _).mono ?_;rintro e w3⟨x,rfl,U,lx,rfl⟩;rw [U.o] at C
 clear E;go_wp2_with fail;refine (vD H M).mono ?_;clear H M;rintro e w4⟨i,GU,rfl,V,a3,q4,H,M,R⟩
 replace b:=kp R b
 clear R;have EK:¬ 9223372036854775807 < 7+i.length:=by omega
 have EM:¬ 9223372036854775807 < 7+i.length+x.length:=by omega
 go_wp2_with fail;obtain⟨Y,q⟩:∃ Y:Bs,Hid ([114,101,116,114,97,99,116] ++ i ++ x=Y):=⟨_,O rfl⟩;rw [show (⟨#[114,101,116,114,97,99,116]⟩:ByteArray) ++ aM (i) ++ aM (x)=aM Y from by rw [← q.o] <;> (simp only [← ak];rfl)];have zR:Y.length≤10000000:=by rw [← q.o];simp only [aaO,List.length_cons,List.length_nil];omega
 refine (ptN H M (by omega)).mono ?_;clear H M;rintro e w5⟨a6,Fu,rfl,H,M,R⟩
 replace b:=kp R b
 clear R
 have T:=O (show mK ay x s.tl.tl=bJ [([],3,[114,101,116,114,97,99,116]),(i,1,x)] (aO ay (s.tl.tl)) ⟨45,x,0,[],0⟩ from by
  unfold mK
  try simp only
  rw [V.o] <;> rfl)
 have J:aN [([],3,[114,101,116,114,97,99,116]),(i,1,x)] ++ dY s=Y:=by
  rw [W.o,List.append_nil];simp only [aN,qZ,bR];rw [← q.o] <;> simp only [List.nil_append,List.append_nil,List.append_assoc,List.cons_append]
 have P:=O J;clear J;obtain⟨id,I⟩:∃ id,Hid (bB.id (aO ay (s.tl.tl))=id):=⟨_,O rfl⟩;rw [I.o];have f:=(b.o.alloc (.cells #[.int .i64 id] 3)).row;have n:=O f;have cI:=H.o.blk.cell 2;clear f;go_wp2_with (at_builtin;go_loud (refine wpList_append_lies _ rfl (.tmp 234) (.tmp 236) 24 rfl 0 3 j0 (.int .i64 0) 1 8 Tryz.underlying24 t y A B rfl (by decide) _ its.length (intCells its) rfl n.o ⟨w5.heap.size,0,none⟩ 1 1 [.int .i64 id] rfl rfl (cell_one_new _ _ _) (by intro u F;simp at F;subst F;rfl) (by omega) (by simp only [maxLen];omega) (by omega) (aaL _) _ rfl ?_);intro gg a1 Tx d c j a5;obtain⟨l,k,Q,L⟩:=V4 H M rfl Z b hw hg d c j;have a0:=l.cell 2;have a2:=l.frozen 2;clear d c j l)
 refine (dF g ay _ _ ((aO ay (s.tl.tl)).put ⟨45,x,0,[],0⟩) _ _ _ k.o).mono ?_;rintro e Sn⟨rfl,GV,h,m⟩;have S:=O h;have X:=O (Q.o.mv k.o m);have K:=O (L.o.trans (k.o.low m));clear h m;have N:=eD ay ((aO ay (s.tl.tl)).put ⟨45,x,0,[],0⟩);obtain⟨G,D⟩:∃ G,Hid (bG ay ((aO ay (s.tl.tl)).put ⟨45,x,0,[],0⟩)=G):=⟨_,O rfl⟩;rw [D.o] at N ⊢
 have Yw:¬ 9223372036854775807 < Y.length+G.length:=by omega
 have YG:¬ 9223372036854775807 < Y.length+G.length+1:=by omega
 go_wp2_with fail;go_ret;exact V8 (a:=bJ [([],3,[114,101,116,114,97,99,116]),(i,1,x)] (aO ay (s.tl.tl)) ⟨45,x,0,[],0⟩) (C.o.trans T.o) P.o D.o I.o (by first|(rw [← ak];rfl)|(rw [← ak,← ak];rfl)) S.o X.o K.o
theorem MS {ay:Bool}{g:Nat}{iv:Value}{w0 w:World}{s:bB}{xs:List NV}{nv lv:Value}{its:List Int}(H:Hid (dM g ay iv w s xs nv lv))(b:Hid (jA w0 w xs iv its))(hw:w0.heap.size≤w.heap.size)(hg:g < w0.heap.size)(b8:its.length≤1000)(hn:s.ns.length≤100000)(hb:s.nx % 7=0) :
  Calls Tryz.prog 72 #[.pointer (some ⟨g,0,none⟩)] w (lg g ay w0 w its (dH ay s)):=by
 obtain⟨Ai,ci,N⟩:=dh b.o.row;subst N;obtain⟨j0,P,T,U,V⟩:=info_parts gN;have Ql:=O fun (row:Option Nat) (w':World) (m:Mv g nv.ownBlock w row w')=>H.o.low m
 have M:=O (iK.refl (g:=g) (w:=w) (xs:=xs) (nv:=nv));have NU:=O (cB.lt b.o.row);have L6:Int.tmod (s.nx:Int) 7=0:=by rw [Int.tmod_eq_emod_of_nonneg (by omega)];omega
 have X:=O (show cO ay s=mh ay (aY s.tl.nx) s.tl.tl by unfold cO;simp only;rw [if_pos hb]);have Jk:=O (show dY s=[] from if_neg (fun h=>by omega));go_in
 go_wp2_with fail;refine (xP H M).mono ?_;clear H M;rintro e w1⟨nX,rfl,q1,H,M,R⟩
 replace b:=kp R b
 clear R;go_wp2_with fail;refine (xP H M).mono ?_;clear H M;rintro e w2⟨Ap,rfl,q2,H,M,R⟩
 replace b:=kp R b
 clear R;go_wp2_with fail;refine (Nk (s.tl.nx) _).mono ?_;rintro e w3⟨x,rfl,Hx,lx,rfl⟩;rw [Hx.o] at X
 clear hb;obtain⟨q,S⟩:∃ m,m=(s.tl.tl).nx % 30:=⟨_,rfl⟩;have zq:Int.tmod ((s.tl.tl).nx:Int) 30=(q:Int):=by rw [Int.tmod_eq_emod_of_nonneg (by omega),S];omega
 have K:=O S.symm;have a8:q≤29:=by omega
 clear S;obtain⟨low,k⟩:∃ low:Int,low=(q:Int) - 15:=⟨_,rfl⟩;have a4:IntKind.i64.wrap ((q:Int) - 15)=low:=by rw [IntWalk.i64_in _ (by omega),k]
 have Bu:=O k.symm;have b9:-15≤low:=by omega
 have c0:low≤14:=by omega
 clear k;go_wp2_with fail;refine (xP H M).mono ?_;clear H M;rintro e w4⟨GU,rfl,q4,H,M,R⟩
 replace b:=kp R b
 clear R;go_wp2_with fail;refine (nbH H M (n:=low) (by omega) (by omega) (by omega)).mono ?_;clear H M;rintro e w5⟨i,f,d1,Fu,QB,rfl,jX,zO,J,c9,a9,H,M,R⟩
 replace b:=kp R b
 clear R;obtain⟨p,Q⟩:∃ m,m=(i.st).nx % 12:=⟨_,rfl⟩;have zp:Int.tmod ((i.st).nx:Int) 12=(p:Int):=by rw [Int.tmod_eq_emod_of_nonneg (by omega),Q];omega
 have Hp:=O Q.symm;have bp:p≤11:=by omega
 clear Q;have d3:IntKind.i64.wrap (low+(p:Int))=low+(p:Int):=IntWalk.i64_in _ (by omega);go_wp2_with fail;refine (xP H M).mono ?_;clear H M;rintro e w6⟨c2,rfl,q6,H,M,R⟩
 replace b:=kp R b
 clear R;go_wp2_with fail;refine (nbH H M (n:=low+(p:Int)) (by omega) (by omega) (by omega)).mono ?_;clear H M;rintro e w7⟨d,I,d2,c7,c4,rfl,o9,a3,L,d0,b0,H,M,R⟩
 replace b:=kp R b
 clear R;have qF:¬ 9223372036854775807 < 7+x.length:=by omega
 have tq:¬ 9223372036854775807 < 7+x.length+1:=by omega
 go_wp2_with fail;refine (vD H M).mono ?_;clear H M;rintro e w8⟨c,c5,rfl,Wz,b7,q8,H,M,R⟩
 replace b:=kp R b
 clear R;clear qF tq;have wI:¬ 9223372036854775807 < 7+x.length:=by omega
 have wK:¬ 9223372036854775807 < 7+x.length+1:=by omega
 have Eu:¬ 9223372036854775807 < 7+x.length+1+c.length:=by omega
 have Ey:¬ 9223372036854775807 < 7+x.length+1+c.length+f.length:=by omega
 go_wp2_with fail;refine (vD H M).mono ?_;clear H M;rintro e w9⟨l,c6,rfl,C,W,a6,H,M,R⟩
 replace b:=kp R b
 clear R;clear wI wK Eu Ey;have wL:¬ 9223372036854775807 < 7+x.length:=by omega
 have wN:¬ 9223372036854775807 < 7+x.length+1:=by omega
 have wO:¬ 9223372036854775807 < 7+x.length+1+c.length:=by omega
 have wP:¬ 9223372036854775807 < 7+x.length+1+c.length+f.length:=by omega
 have AL:¬ 9223372036854775807 < 7+x.length+1+c.length+f.length+l.length:=by omega
 have EC:¬ 9223372036854775807 < 7+x.length+1+c.length+f.length+l.length+2:=by omega
 go_wp2_with fail;refine (vD H M).mono ?_;clear H M;rintro e Qv⟨y,Y5,rfl,NS,a0,c8,H,M,R⟩
 replace b:=kp R b
 clear R;clear wL wN wO wP AL EC;have EK:¬ 9223372036854775807 < 7+x.length:=by omega
 have EM:¬ 9223372036854775807 < 7+x.length+1:=by omega
 have Gp:¬ 9223372036854775807 < 7+x.length+1+c.length:=by omega
 have Gy:¬ 9223372036854775807 < 7+x.length+1+c.length+f.length:=by omega
 have Yt:¬ 9223372036854775807 < 7+x.length+1+c.length+f.length+l.length:=by omega
 have b3:¬ 9223372036854775807 < 7+x.length+1+c.length+f.length+l.length+2:=by omega
 have b4:¬ 9223372036854775807 < 7+x.length+1+c.length+f.length+l.length+2+y.length:=by omega
 have b5:¬ 9223372036854775807 < 7+x.length+1+c.length+f.length+l.length+2+y.length+I.length:=by omega
 go_wp2_with fail;obtain⟨Y,F⟩:∃ Y:Bs,Hid ([99,104,111,111,115,101,32] ++ x ++ [58] ++ c ++ f ++ l ++ [46,46] ++ y ++ I=Y):=⟨_,O rfl⟩;rw [show (⟨#[99,104,111,111,115,101,32]⟩:ByteArray) ++ aM (x) ++ (⟨#[58]⟩:ByteArray) ++ aM (c) ++ aM (f) ++ aM (l) ++ (⟨#[46,46]⟩:ByteArray) ++ aM (y) ++ aM (I)=aM Y from by rw [← F.o] <;> (simp only [← ak];rfl)];have zR:Y.length≤10000000:=by rw [← F.o];simp only [aaO,List.length_cons,List.length_nil];omega
 refine (SI H M [i.ix,d.ix] (by simp) (by omega)).mono ?_;clear H M;rintro e Et⟨a2,a1,rfl,H,M,R⟩
 replace b:=kp R b
 clear R
 have HF:=O (show mh ay x s.tl.tl=bJ (([],3,[99,104,111,111,115,101]) :: ([32],1,x) :: bR [58] :: (bN.on c i.pc ++ (l,4,[46,46]) :: bN.on y d.pc)) (aO ay (aO ay (aO ay (d.st)))) ⟨40,x,0,[i.ix,d.ix],0⟩ from by
  unfold mh
  try simp only
  rw [K.o,Bu.o,jX.o,Hp.o,o9.o,Wz.o,C.o,NS.o] <;> rfl)
 have wF:aN (([],3,[99,104,111,111,115,101]) :: ([32],1,x) :: bR [58] :: (bN.on c i.pc ++ (l,4,[46,46]) :: bN.on y d.pc)) ++ dY s=Y:=by
  rw [Jk.o,List.append_nil];simp only [aN,qZ,bR];rw [J.o,L.o,← F.o] <;> simp only [List.nil_append,List.append_nil,List.append_assoc,List.cons_append]
 have Gr:=O wF;clear wF;obtain⟨id,qP⟩:∃ id,Hid (bB.id (aO ay (aO ay (aO ay (d.st))))=id):=⟨_,O rfl⟩;rw [qP.o];have t:=(b.o.alloc (.cells #[.int .i64 id] 3)).row;have E:=O t;have cI:=H.o.blk.cell 2;clear t;go_wp2_with (at_builtin;go_loud (refine wpList_append_lies _ rfl (.tmp 234) (.tmp 236) 24 rfl 0 3 j0 (.int .i64 0) 1 8 Tryz.underlying24 P T U V rfl (by decide) _ its.length (intCells its) rfl E.o ⟨Et.heap.size,0,none⟩ 1 1 [.int .i64 id] rfl rfl (cell_one_new _ _ _) (by intro u hu;simp at hu;subst hu;rfl) (by omega) (by simp only [maxLen];omega) (by omega) (aaL _) _ rfl ?_);intro gg b2 Tx r j A c1;obtain⟨D,B,Gu,B9⟩:=V4 H M rfl Ql b hw hg r j A;have b1:=D.cell 2;have b6:=D.frozen 2;clear r j A D)
 refine (dF g ay _ _ ((aO ay (aO ay (aO ay (d.st)))).put ⟨40,x,0,[i.ix,d.ix],0⟩) _ _ _ B.o).mono ?_;rintro e Sn⟨rfl,GV,h,m⟩;have H5:=O h;have L5:=O (Gu.o.mv B.o m);have B5:=O (B9.o.trans (B.o.low m));clear h m;have W:=eD ay ((aO ay (aO ay (aO ay (d.st)))).put ⟨40,x,0,[i.ix,d.ix],0⟩);obtain⟨G,Z⟩:∃ G,Hid (bG ay ((aO ay (aO ay (aO ay (d.st)))).put ⟨40,x,0,[i.ix,d.ix],0⟩)=G):=⟨_,O rfl⟩;rw [Z.o] at W ⊢
 have Yw:¬ 9223372036854775807 < Y.length+G.length:=by omega
 have YG:¬ 9223372036854775807 < Y.length+G.length+1:=by omega
 go_wp2_with fail;go_ret;exact V8 (a:=bJ (([],3,[99,104,111,111,115,101]) :: ([32],1,x) :: bR [58] :: (bN.on c i.pc ++ (l,4,[46,46]) :: bN.on y d.pc)) (aO ay (aO ay (aO ay (d.st)))) ⟨40,x,0,[i.ix,d.ix],0⟩) (X.o.trans HF.o) Gr.o Z.o qP.o (by first|(rw [← ak];rfl)|(rw [← ak,← ak];rfl)) H5.o L5.o B5.o
theorem Va {ay:Bool}{g:Nat}{iv:Value}{w0 w:World}{s:bB}{xs:List NV}{nv lv:Value}{its:List Int}(H:Hid (dM g ay iv w s xs nv lv))(b:Hid (jA w0 w xs iv its))(hw:w0.heap.size≤w.heap.size)(hg:g < w0.heap.size)(a5:its.length≤1000)(hn:s.ns.length≤100000)(K:s.nx % 7=1) :
  Calls Tryz.prog 72 #[.pointer (some ⟨g,0,none⟩)] w (lg g ay w0 w its (dH ay s)):=by
 obtain⟨Ai,ci,B⟩:=dh b.o.row;subst B;obtain⟨j0,C,D,E,F⟩:=info_parts gN;have Ql:=O fun (row:Option Nat) (w':World) (m:Mv g nv.ownBlock w row w')=>H.o.low m
 have M:=O (iK.refl (g:=g) (w:=w) (xs:=xs) (nv:=nv));have NU:=O (cB.lt b.o.row);have L6:Int.tmod (s.nx:Int) 7=1:=by rw [Int.tmod_eq_emod_of_nonneg (by omega)];omega
 have I:=O (show cO ay s=xW ay (aY s.tl.nx) s.tl.tl by unfold cO;simp only;rw [if_neg (by omega),if_pos K]);have Jk:=O (show dY s=[] from if_neg (fun h=>by omega));go_in
 go_wp2_with fail;refine (xP H M).mono ?_;clear H M;rintro e w1⟨nX,rfl,q1,H,M,R⟩
 replace b:=kp R b
 clear R;go_wp2_with fail;refine (xP H M).mono ?_;clear H M;rintro e w2⟨Ap,rfl,q2,H,M,R⟩
 replace b:=kp R b
 clear R;go_wp2_with fail;refine (Nk (s.tl.nx) _).mono ?_;rintro e w3⟨x,rfl,Hx,lx,rfl⟩;rw [Hx.o] at I
 clear K;obtain⟨l,j⟩:∃ m,m=(s.tl.tl).nx % 6:=⟨_,rfl⟩;have b1:Int.tmod ((s.tl.tl).nx:Int) 6=(l:Int):=by rw [Int.tmod_eq_emod_of_nonneg (by omega),j];omega
 have A:=O j.symm;have a0:l≤5:=by omega
 clear j;have b0:IntKind.i64.wrap (1+(l:Int))=((1+l:Nat):Int):=by rw [IntWalk.i64_in _ (by omega)];omega
 go_wp2_with fail;refine (xP H M).mono ?_;clear H M;rintro e w4⟨GU,rfl,q4,H,M,R⟩
 replace b:=kp R b
 clear R;go_wp2_with fail;refine (prH H M (m:=1+l) (by omega) (by omega)).mono ?_;clear H M;rintro e w5⟨c,n,A5,c5,a8,Fu,QB,rfl,jX,zO,a7,a1,L,LL,H,M,R⟩
 replace b:=kp R b
 clear R;have EK:¬ 9223372036854775807 < 5+x.length:=by omega
 have EM:¬ 9223372036854775807 < 5+x.length+2:=by omega
 have Gp:¬ 9223372036854775807 < 5+x.length+2+n.length:=by omega
 have Gy:¬ 9223372036854775807 < 5+x.length+2+n.length+1:=by omega
 go_wp2_with fail;obtain⟨Y,y⟩:∃ Y:Bs,Hid ([116,121,112,101,32] ++ x ++ [61,123] ++ n ++ [125]=Y):=⟨_,O rfl⟩;rw [show (⟨#[116,121,112,101,32]⟩:ByteArray) ++ aM (x) ++ (⟨#[61,123]⟩:ByteArray) ++ aM (n) ++ (⟨#[125]⟩:ByteArray)=aM Y from by rw [← y.o] <;> (simp only [← ak];rfl)];have zR:Y.length≤10000000:=by rw [← y.o];simp only [aaO,List.length_cons,List.length_nil];omega
 refine (Wd H M LL (by omega)).mono ?_;clear H M;rintro e w6⟨a9,XB,rfl,H,M,R⟩
 replace b:=O (R.o _ _ _ NU.o b.o)
 clear R
 have Z:=O (show xW ay x s.tl.tl=bJ (([],3,[116,121,112,101]) :: ([32],1,x) :: bR [61] :: bR [123] :: (c.pc ++ [bR [125]])) (c.st) ⟨41,x,0,c.ix,0⟩ from by
  unfold xW
  try simp only
  rw [A.o,jX.o] <;> rfl)
 have Q:aN (([],3,[116,121,112,101]) :: ([32],1,x) :: bR [61] :: bR [123] :: (c.pc ++ [bR [125]])) ++ dY s=Y:=by
  rw [Jk.o,List.append_nil];simp only [aN,qZ,bR];rw [zO.o,← y.o] <;> simp only [List.nil_append,List.append_nil,List.append_assoc,List.cons_append]
 have V:=O Q;clear Q;obtain⟨id,P⟩:∃ id,Hid (bB.id (c.st)=id):=⟨_,O rfl⟩;rw [P.o];have i:=(b.o.alloc (.cells #[.int .i64 id] 3)).row;have t:=O i;have cI:=H.o.blk.cell 2;clear i;go_wp2_with (at_builtin;go_loud (refine wpList_append_lies _ rfl (.tmp 234) (.tmp 236) 24 rfl 0 3 j0 (.int .i64 0) 1 8 Tryz.underlying24 C D E F rfl (by decide) _ its.length (intCells its) rfl t.o ⟨w6.heap.size,0,none⟩ 1 1 [.int .i64 id] rfl rfl (cell_one_new _ _ _) (by intro u N;simp at N;subst N;rfl) (by omega) (by simp only [maxLen];omega) (by omega) (aaL _) _ rfl ?_);intro gg a3 Tx f d k a6;obtain⟨r,q,W,T⟩:=V4 H M rfl Ql b hw hg f d k;have a2:=r.cell 2;have a4:=r.frozen 2;clear f d k r)
 refine (dF g ay _ _ ((c.st).put ⟨41,x,0,c.ix,0⟩) _ _ _ q.o).mono ?_;rintro e Sn⟨rfl,GV,h,m⟩;have X:=O h;have L5:=O (W.o.mv q.o m);have S:=O (T.o.trans (q.o.low m));clear h m;have U:=eD ay ((c.st).put ⟨41,x,0,c.ix,0⟩);obtain⟨G,J⟩:∃ G,Hid (bG ay ((c.st).put ⟨41,x,0,c.ix,0⟩)=G):=⟨_,O rfl⟩;rw [J.o] at U ⊢
 have Yw:¬ 9223372036854775807 < Y.length+G.length:=by omega
 have YG:¬ 9223372036854775807 < Y.length+G.length+1:=by omega
 go_wp2_with fail;go_ret;exact V8 (a:=bJ (([],3,[116,121,112,101]) :: ([32],1,x) :: bR [61] :: bR [123] :: (c.pc ++ [bR [125]])) (c.st) ⟨41,x,0,c.ix,0⟩) (I.o.trans Z.o) V.o J.o P.o (by first|(rw [← ak];rfl)|(rw [← ak,← ak];rfl)) X.o L5.o S.o
def Jj (g:Nat)(ay:Bool)(iv:Value)(w:World)(xs:List NV)(nv:Value)(q:Nat)(r:j4)(e:Ending)(w':World):Prop :=
 e=.returned (.tuple #[.string (aM (aN r.pc ++ (if q=7 then [32] else []))),.int .i64 r.ix])∧∃ xs' eO kZ,dM g ay iv w' r.st xs' eO kZ∧iK g w xs nv w' xs' eO
theorem Rl {ay:Bool}{q:Nat}(F:1≤q)(G:q≤8)(r:q=7){g:Nat}{iv:Value}{w:World}{s:bB}{xs:List NV}{nv lv:Value}(H:Hid (dM g ay iv w s xs nv lv))(hn:s.ns.length≤600000) :
  Calls Tryz.prog 118 #[.pointer (some ⟨g,0,none⟩),.int .i64 (q:Int)] w (Jj g ay iv w xs nv q (o8 ay q s)):=by
 have M:=O (iK.refl (g:=g) (w:=w) (xs:=xs) (nv:=nv));have X:=O (Sz ay);have B:=O (Qp ay);subst r;have x:=uq 7 (by omega);rw [show ((7:Nat):Int)=7 from rfl] at x
 have n:=xR 7 (by omega);obtain⟨a,d⟩:∃ a,Hid (sg iB 7=a):=⟨_,O rfl⟩;rw [d.o] at x n
 have J:(0:Int)≤((7:Nat):Int):=by omega
 have K:((7:Nat):Int) < 9:=by omega
 go_in
 go_wp2_with fail;refine (lsH H M X B (m:=0) (by omega) (by omega)).mono ?_;clear H M;rintro e w1⟨c,l,L,Z,xs1,gW,nX,rfl,f,i,V,C,I,D,k,H,M,-⟩;go_wp2_with fail;refine (vD H M).mono ?_;clear H M;rintro e w2⟨b,N,rfl,h,E,q2,H,M,R⟩
 replace k:=kp R k
 clear R;have P:¬ 9223372036854775807 < 3+b.length:=by omega
 have Q:¬ 9223372036854775807 < 3+b.length+a.length:=by omega
 have T:¬ 9223372036854775807 < 3+b.length+a.length+1:=by omega
 have U:¬ 9223372036854775807 < 3+b.length+a.length+1+l.length:=by omega
 go_wp2_with fail;obtain⟨Y,j⟩:∃ Y:Bs,Hid ([97,115,107] ++ b ++ a ++ [32] ++ l=Y):=⟨_,O rfl⟩;rw [show (⟨#[97,115,107]⟩:ByteArray) ++ aM (b) ++ aM (a) ++ (⟨#[32]⟩:ByteArray) ++ aM (l)=aM Y from by rw [← j.o] <;> (simp only [← ak];rfl)];have zR:Y.length≤10000000:=by rw [← j.o];simp only [aaO,List.length_cons,List.length_nil];omega
 refine (Wd H M k (by omega)).mono ?_;clear H M;rintro e w3⟨W,S,rfl,H,M,-⟩;go_wp2_with fail;go_ret2
 have y:=O (show o8 ay 7 s=bJ (([],3,[97,115,107]) :: (b,3,a) :: bN.on [32] c.pc) (aO ay (c.st)) ⟨46,[],((7:Nat):Int),c.ix,0⟩ from by
  unfold o8;simp only [↓reduceIte,Nat.reduceEqDiff];rw [f.o,d.o,h.o] <;> rfl)
 rw [y.o]
 refine⟨?_,_,_,_,H.o,M.o⟩
 show _=Ending.returned (.tuple #[.string (aM (aN (([],3,[97,115,107]) :: (b,3,a) :: bN.on [32] c.pc) ++ _)),.int .i64 (aO ay (c.st)).id])
 have A:aN (([],3,[97,115,107]) :: (b,3,a) :: bN.on [32] c.pc) ++ (if 7=7 then [32] else [])=Y:=by
  have t:=i.o;rw [C.o (by first | rfl | trivial)] at t ⊢
  rw [if_pos rfl,← j.o,← t];simp only [aN,bN.on];simp only [List.nil_append,List.append_nil,List.append_assoc,List.cons_append]
 rw [A];rfl
theorem UO {ay:Bool}{q:Nat}(I:1≤q)(J:q≤8)(x:q=8){g:Nat}{iv:Value}{w:World}{s:bB}{xs:List NV}{nv lv:Value}(H:Hid (dM g ay iv w s xs nv lv))(hn:s.ns.length≤600000) :
  Calls Tryz.prog 118 #[.pointer (some ⟨g,0,none⟩),.int .i64 (q:Int)] w (Jj g ay iv w xs nv q (o8 ay q s)):=by
 have M:=O (iK.refl (g:=g) (w:=w) (xs:=xs) (nv:=nv));have X:=O (Sz ay);have D:=O (Qp ay);subst x;obtain⟨f,h⟩:∃ m,m=(s).nx % 4:=⟨_,rfl⟩;have T:Int.tmod ((s).nx:Int) 4=(f:Int):=by rw [Int.tmod_eq_emod_of_nonneg (by omega),h];omega
 have l:=O h.symm;have F:f≤3:=by omega
 clear h;have P:IntKind.i64.wrap (1+(f:Int))=((1+f:Nat):Int):=by rw [IntWalk.i64_in _ (by omega)];omega
 have y:=uq 8 (by omega);rw [show ((8:Nat):Int)=8 from rfl] at y
 have t:=xR 8 (by omega);obtain⟨a,d⟩:∃ a,Hid (sg iB 8=a):=⟨_,O rfl⟩;rw [d.o] at y t
 have Q:(0:Int)≤((8:Nat):Int):=by omega
 have S:((8:Nat):Int) < 9:=by omega
 go_in
 go_wp2_with fail;refine (xP H M).mono ?_;clear H M;rintro e w1⟨nX,rfl,q1,H,M,-⟩;go_wp2_with fail;refine (lsH H M X D (m:=1+f) (by omega) (by omega)).mono ?_;clear H M;rintro e w2⟨c,r,U,c2,L,Qu,V,rfl,i,C,E,Z2,K,SG,n,H,M,-⟩;go_wp2_with fail;refine (vD H M).mono ?_;clear H M;rintro e w3⟨b,Mc,rfl,j,G,q3,H,M,R⟩
 replace n:=kp R n
 clear R;have W:¬ 9223372036854775807 < 3+b.length:=by omega
 have Z:¬ 9223372036854775807 < 3+b.length+a.length:=by omega
 have Gp:¬ 9223372036854775807 < 3+b.length+a.length+1:=by omega
 have Gy:¬ 9223372036854775807 < 3+b.length+a.length+1+r.length:=by omega
 go_wp2_with fail;obtain⟨Y,k⟩:∃ Y:Bs,Hid ([97,115,107] ++ b ++ a ++ [32] ++ r=Y):=⟨_,O rfl⟩;rw [show (⟨#[97,115,107]⟩:ByteArray) ++ aM (b) ++ aM (a) ++ (⟨#[32]⟩:ByteArray) ++ aM (r)=aM Y from by rw [← k.o] <;> (simp only [← ak];rfl)];have zR:Y.length≤10000000:=by rw [← k.o];simp only [aaO,List.length_cons,List.length_nil];omega
 refine (Wd H M n (by omega)).mono ?_;clear H M;rintro e w4⟨N,yH,rfl,H,M,-⟩;go_wp2_with fail;go_ret2
 have A:=O (show o8 ay 8 s=bJ (([],3,[97,115,107]) :: (b,3,a) :: bN.on [32] c.pc) (aO ay (c.st)) ⟨46,[],((8:Nat):Int),c.ix,0⟩ from by
  unfold o8;simp only [↓reduceIte,Nat.reduceEqDiff];rw [l.o,i.o,d.o,j.o] <;> rfl)
 rw [A.o]
 refine⟨?_,_,_,_,H.o,M.o⟩
 show _=Ending.returned (.tuple #[.string (aM (aN (([],3,[97,115,107]) :: (b,3,a) :: bN.on [32] c.pc) ++ _)),.int .i64 (aO ay (c.st)).id])
 have B:aN (([],3,[97,115,107]) :: (b,3,a) :: bN.on [32] c.pc) ++ (if 8=7 then [32] else [])=Y:=by
  rw [if_neg (by omega),List.append_nil,← k.o];simp only [aN];rw [E.o (by omega)];simp only [List.nil_append,List.append_nil,List.append_assoc,List.cons_append]
 rw [B];rfl
theorem Zo {ay:Bool}{q:Nat}(F:1≤q)(G:q≤8)(r:¬ q=7)(f:¬ q=8){g:Nat}{iv:Value}{w:World}{s:bB}{xs:List NV}{nv lv:Value}(H:Hid (dM g ay iv w s xs nv lv))(hn:s.ns.length≤600000) :
  Calls Tryz.prog 118 #[.pointer (some ⟨g,0,none⟩),.int .i64 (q:Int)] w (Jj g ay iv w xs nv q (o8 ay q s)):=by
 have M:=O (iK.refl (g:=g) (w:=w) (xs:=xs) (nv:=nv));have X:=O (Sz ay);have A:=O (Qp ay);have z7:¬ (q:Int)=7:=by omega
 have C:¬ (q:Int)=8:=by omega
 have I:=uq q (by omega);have n:=xR q (by omega);obtain⟨a,d⟩:∃ a,Hid (sg iB q=a):=⟨_,O rfl⟩;rw [d.o] at I n
 have K:(0:Int)≤((q:Nat):Int):=by omega
 have L:((q:Nat):Int) < 9:=by omega
 go_in
 go_wp2_with fail;refine (lsH H M X A (m:=1) (by omega) (by omega)).mono ?_;clear H M;rintro e w1⟨c,l,N,c1,xs1,gW,nX,rfl,h,y,B,Z,J,D,k,H,M,-⟩;go_wp2_with fail;refine (vD H M).mono ?_;clear H M;rintro e w2⟨b,P,rfl,i,E,q2,H,M,R⟩
 replace k:=kp R k
 clear R;have Q:¬ 9223372036854775807 < 3+b.length:=by omega
 have S:¬ 9223372036854775807 < 3+b.length+a.length:=by omega
 have U:¬ 9223372036854775807 < 3+b.length+a.length+1:=by omega
 have V:¬ 9223372036854775807 < 3+b.length+a.length+1+l.length:=by omega
 go_wp2_with fail;obtain⟨Y,j⟩:∃ Y:Bs,Hid ([97,115,107] ++ b ++ a ++ [32] ++ l=Y):=⟨_,O rfl⟩;rw [show (⟨#[97,115,107]⟩:ByteArray) ++ aM (b) ++ aM (a) ++ (⟨#[32]⟩:ByteArray) ++ aM (l)=aM Y from by rw [← j.o] <;> (simp only [← ak];rfl)];have zR:Y.length≤10000000:=by rw [← j.o];simp only [aaO,List.length_cons,List.length_nil];omega
 refine (Wd H M k (by omega)).mono ?_;clear H M;rintro e w3⟨W,T,rfl,H,M,-⟩;go_wp2_with fail;go_ret2
 have t:=O (show o8 ay q s=bJ (([],3,[97,115,107]) :: (b,3,a) :: bN.on [32] c.pc) (aO ay (c.st)) ⟨46,[],((q:Nat):Int),c.ix,0⟩ from by
  unfold o8;simp only
  rw [if_neg r,if_neg f,if_neg f,h.o,d.o,i.o] <;> rfl)
 rw [t.o]
 refine⟨?_,_,_,_,H.o,M.o⟩
 show _=Ending.returned (.tuple #[.string (aM (aN (([],3,[97,115,107]) :: (b,3,a) :: bN.on [32] c.pc) ++ _)),.int .i64 (aO ay (c.st)).id])
 have x:aN (([],3,[97,115,107]) :: (b,3,a) :: bN.on [32] c.pc) ++ (if q=7 then [32] else [])=Y:=by
  rw [if_neg (by omega),List.append_nil,← j.o];simp only [aN];rw [B.o (by omega)];simp only [List.nil_append,List.append_nil,List.append_assoc,List.cons_append]
 rw [x];rfl
theorem akH {g:Nat}{ay:Bool}{iv Da nv lv:Value}{w0 w:World}{s:bB}{DV xs:List NV}(H:Hid (dM g ay iv w s xs nv lv))(M:Hid (iK g w0 DV Da w xs nv)){q:Nat}(d:1≤q)(c:q≤8)(i:s.ns.length≤600000):Calls Tryz.prog 118 #[.pointer (some ⟨g,0,none⟩),.int .i64 (q:Int)] w fun e f=>∃ a Y b eO j,e=.returned (.tuple #[.string (aM Y),.int .i64 a.ix])∧Hid (o8 ay q s=a)∧Hid (aN a.pc ++ (if q=7 then [32] else [])=Y)∧Y.length≤20000∧Hid (dM g ay iv f a.st b eO j)∧Hid (iK g w0 DV Da f b eO)∧Hid (Kp w xs f b):=by
 have k:Calls Tryz.prog 118 #[.pointer (some ⟨g,0,none⟩),.int .i64 (q:Int)] w (Jj g ay iv w xs nv q (o8 ay q s)):=by
  by_cases h7:q=7
  ·exact Rl d c h7 H i
  by_cases h8:q=8
  ·exact UO d c h8 H i
  ·exact Zo d c h7 h8 H i
 refine k.mono ?_;rintro e f ⟨rfl,b,eO,j,h,m⟩
 refine⟨_,_,b,eO,j,rfl,O rfl,O rfl,?_,O h,O (M.o.trans m),O fun w1 v ks L=>L.mw H.o m⟩
 have h1:(aN (o8 ay q s).pc).length≤11000:=(Og ay q c s).1;have h2:(if q=7 then [32] else ([]:Bs)).length≤1:=by split <;> simp
 rw [aaO];omega
end Go.Proofs.YthepmkjggfijoaaGreatDoor
