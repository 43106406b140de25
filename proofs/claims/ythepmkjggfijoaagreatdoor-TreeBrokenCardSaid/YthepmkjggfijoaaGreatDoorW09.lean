/-
  A part of the proof.
-/
import Derived.Test.YthepmkjggfijoaaGreatDoorSA
import Derived.Test.YthepmkjggfijoaaGreatDoorW07
import Derived.Test.YthepmkjggfijoaaGreatDoorW08
set_option linter.all false
set_option maxRecDepth 100000
set_option maxHeartbeats 4000000
namespace Go.Proofs.YthepmkjggfijoaaGreatDoor
open Go.RowKit Mist
attribute [local go_sem] aj aH aS aB ak
theorem Ho {v u:Value}{n:Nat}(h1:∀ b,u.ownBlock=some b→b < n)(h2:∀ b,v.ownBlock=some b→n≤b):u.ownBlock=none∨u.ownBlock ≠ v.ownBlock:=by
 rcases h9:u.ownBlock with _ | b
 ·exact .inl rfl
 ·right
  intro e
  have:=h1 b h9
  have:=h2 b e.symm
  omega
section
variable {g:Nat} {ay:Bool} {iv lv:Value} {w0 w w1:World} {s:bC} {xs xs1:List NV} {nv gW:Value} {v u:Value} {ks js:List Int}
theorem jG.farP (h:jG w0 w xs v ks){b:Nat}{cs:Array Value}(a:aC w b 81 cs)(i:Nat)(u:Value):jG w0 (w.setCell ⟨b,i,none⟩ u) xs v ks:=⟨ownsRow_setCell_other h.row (aT h.row a (by decide)) u,h.lo,h.far⟩
theorem jG.base (h:jG w1 w xs v ks)(h0:w0.heap.size≤w1.heap.size):jG w0 w xs v ks:=⟨h.row,fun b a=>Nat.le_trans h0 (h.lo b a),h.far⟩
theorem jG.keep (h:jG w0 w xs v ks)(b:w.grownBy w1 u.ownBlock)(a:v.ownBlock=none∨v.ownBlock ≠ u.ownBlock):jG w0 w1 xs v ks:=⟨World.ownsRow.kept h.row b a,h.lo,h.far⟩
theorem jG.grows (h:jG w0 w xs v ks){a cap:Nat}(q:dY g ay iv w s xs nv lv)(d:w1.ownsRow 0 3 1 (.slice (some ⟨a,0,none⟩) (ks.length+js.length) cap) (ks.length+js.length) (intCells ks ++ intCells js))(c:v.ownBlock=some a∨a=w.heap.size)(h0:w0.heap.size≤w.heap.size):jG w0 w1 xs (.slice (some ⟨a,0,none⟩) (ks.length+js.length) cap) (ks ++ js):=by
 refine⟨?_,fun b f=>?_,fun x i=>?_⟩
 ·unfold cB;rw [aaO,show intCells (ks ++ js)=intCells ks ++ intCells js by unfold intCells;rw [List.map_append]];exact d
 ·have f:a=b:=by simpa [Value.ownBlock] using f
  subst f;rcases c with e | e
  ·exact h.lo _ e
  ·omega
 ·rcases c with e | e
  ·have:=h.far x i
   rw [e] at this
   simpa [Value.ownBlock] using this
  ·rcases h9:x.2.ownBlock with _ | b
   ·exact .inl rfl
   ·right
    intro j;have h1:=cB.lt (q.kids x i) b h9;simp [Value.ownBlock] at j
    omega
theorem dY.items (h:dY g ay iv w s xs nv lv)(AY:Value):dY g ay AY (w.setCell ⟨g,2,none⟩ AY) s xs nv lv :=
 have m:Mv g nv.ownBlock w nv.ownBlock (w.setCell ⟨g,2,none⟩ AY):=Mv.d_ h.blk 2 AY
 ⟨(by have:=h.blk.d_ 2 AY;simpa using this),h.seed.below (h.low m) (aaK h.lt),ownsRow_setCell_other h.own (aT h.own h.blk (by decide)) _,fun x a=>h.l6 m (h.kids x a),h.ns,h.pow.on (h.low m)⟩
end
def mh (g:Nat)(ay:Bool)(w0 w:World)(its:List Int)(r:kJ)(e:Ending)(w':World):Prop :=
 e=.returned (.string (aM (aN r.pc)))∧∃ AY xs' eO lW,dY g ay AY w' r.st xs' eO lW∧jG w0 w' xs' AY (its ++ [r.ix])∧Below g w w'
theorem UJ (ay:Bool):Mk ay (bB ay 4) 700000 (.int .i64 4) :=
 ⟨fun g iv w s xs nv lv h a=>OD ay g iv w s xs nv lv h (by omega),F8 (kM ay 4) (by decide) (by decide),fun s=>iB ay 4 s⟩
theorem UA (ay:Bool):Mk ay (bB ay 3) 750000 (.int .i64 3) :=
 ⟨fun g iv w s xs nv lv h a=>yg ay g iv w s xs nv lv h (by omega),F8 (kM ay 3) (by decide) (by decide),fun s=>iB ay 3 s⟩
theorem SB (ay:Bool):LsC ay (bB ay 3) 700000 (.int .i64 4):=fun m a g iv w s xs nv lv h b =>
 C8 ay 3 750000 (by omega) (yg ay) (by decide) (by decide) m a g iv w s xs nv lv h (by omega)
section
variable {g:Nat} {ay:Bool} {iv Gq nv lv:Value} {w0 w:World} {s:bC} {GN xs:List NV} (H:Hid (dY g ay iv w s xs nv lv)) (M:Hid (iL g w0 GN Gq w xs nv))
include H M
theorem kdH (j:s.ns.length≤800000):Calls Tryz.prog 116 #[.pointer (some ⟨g,0,none⟩),.int .i64 2] w fun e c=>∃ a T b eO d,e=.returned (.tuple #[.string (aM T),.int .i64 a.ix])∧Hid (bF ay 2 s=a)∧Hid (aN a.pc=T)∧Hid (∀ u,aN (bN.on u a.pc)=u ++ T)∧T.length≤100∧a.st.ns.length≤s.ns.length+3∧Hid (dY g ay iv c a.st b eO d)∧Hid (iL g w0 GN Gq c b eO)∧Hid (Kp w xs c b):=by
 refine (vo ay g iv _ s _ _ _ H.o j).mono ?_;rintro e c ⟨rfl,b,eO,d,h,m⟩;obtain⟨f,i⟩:=uX ay 2 s;exact⟨_,_,b,eO,d,rfl,O rfl,O rfl,O (zV (qX ay 2 s)),Nat.le_trans f (by omega),i,O h,O (M.o.trans m),O fun w1 v ks L=>L.mw H.o m⟩
theorem nbH {n:Int}(h0:-140 < n)(h1:n < 140)(j:s.ns.length≤900000):Calls Tryz.prog 112 #[.pointer (some ⟨g,0,none⟩),.int .i64 n] w fun e c=>∃ a T b eO d,e=.returned (.tuple #[.string (aM T),.int .i64 a.ix])∧Hid (bX n s=a)∧Hid (aN a.pc=T)∧Hid (∀ u,aN (bN.on u a.pc)=u ++ T)∧T.length≤100∧a.st.ns.length≤s.ns.length+1∧Hid (dY g ay iv c a.st b eO d)∧Hid (iL g w0 GN Gq c b eO)∧Hid (Kp w xs c b):=by
 refine (Gz ay n (by omega) (by omega) g iv _ s _ _ _ H.o j).mono ?_;rintro e c ⟨rfl,b,eO,d,h,m⟩;obtain⟨f,i⟩:=KP n h0 h1 s;exact⟨_,_,b,eO,d,rfl,O rfl,O rfl,O (on_ne (num_ne n)),Nat.le_trans f (by omega),Nat.le_of_eq i,O h,O (M.o.trans m),O fun w1 v ks L=>L.mw H.o m⟩
theorem prH {m:Nat}(t:m≤6)(x:s.ns.length≤700000):Calls Tryz.prog 115 #[.pointer (some ⟨g,0,none⟩),.int .i64 (m:Int)] w fun e d=>∃ r T A c a eO f,e=.returned (.tuple #[.string (aM T),.slice A r.ix.length c])∧Hid (bE ay m ⟨[],[],s⟩=r)∧Hid (aN r.pc=T)∧T.length≤500∧r.st.ns.length≤s.ns.length+30∧r.ix.length≤6∧Hid (jG w0 d a (.slice A r.ix.length c) r.ix)∧Hid (dY g ay iv d r.st a eO f)∧Hid (iL g w0 GN Gq d a eO)∧Hid (Kp w xs d a):=by
 refine (GA ay 700000 (by omega) m t g iv _ s _ _ _ H.o x).mono ?_;rintro e d ⟨A,c,a,eO,f,rfl,l,h,k⟩;obtain⟨i,j,n⟩:=wI ay m ⟨[],[],s⟩;rw [fu] at i
 have j:(bE ay m ⟨[],[],s⟩).st.ns.length≤s.ns.length+m * 4:=j;have n:(bE ay m ⟨[],[],s⟩).ix.length=0+m:=n;exact⟨_,_,A,c,a,eO,f,rfl,O rfl,O rfl,Nat.le_trans i (by omega),by omega,by omega,O ⟨l.row,fun b q=>Nat.le_trans M.o.size (l.lo b q),l.far⟩,O h,O (M.o.trans k),O fun w1 v ks L=>L.mw H.o k⟩
theorem Zc {e:Option Addr}{f c cap:Nat}{id:Int}{its:List Int}{j d:World}(C:iv=.slice e its.length f)(B:Hid (∀ (row:Option Nat) (r:World),Mv g Gq.ownBlock w0 row r→Below g w0 r))(L:Hid (jG j w xs (.slice e its.length f) its))(F:j.heap.size≤w0.heap.size)(D:g < j.heap.size)
  (i:d.ownsRow 0 3 1 (.slice (some ⟨c,0,none⟩) (its.length+1) cap) (its.length+1) (intCells its ++ [.int .i64 id])) (a:(w.alloc (.cells #[.int .i64 id] 3)).grownBy d (Value.slice e its.length f).ownBlock) (n:(Value.slice e its.length f).ownBlock=some c∨c=(w.alloc (.cells #[.int .i64 id] 3)).heap.size) :
  aC d g 81 #[lv,nv,.slice e its.length f,.bool ay]∧Hid (dY g ay (.slice (some ⟨c,0,none⟩) (its.length+1) cap) (d.setCell ⟨g,2,none⟩ (.slice (some ⟨c,0,none⟩) (its.length+1) cap)) s xs nv lv)∧Hid (jG j (d.setCell ⟨g,2,none⟩ (.slice (some ⟨c,0,none⟩) (its.length+1) cap)) xs (.slice (some ⟨c,0,none⟩) (its.length+1) cap) (its ++ [id]))∧Hid (Below g w0 (d.setCell ⟨g,2,none⟩ (.slice (some ⟨c,0,none⟩) (its.length+1) cap))):=by
 subst C;have E:=M.o.size;have q:=B.o _ _ M.o.mv;have m:=L.o.alloc (.cells #[.int .i64 id] 3);have l:=H.o.alloc (.cells #[.int .i64 id] 3);have y:=q.alloc (by have:=q.size;have:=H.o.lt;omega) (.cells #[.int .i64 id] 3);have h:=fun b A=>aaK (aaW D (m.lo b A))
 have x:=m.grow l i n (Nat.le_trans F (by simp;omega));have k:=l.grow m a h;have t:=y.grown a (aaK l.lt) h;exact⟨k.blk,O (k.items _),O (x.farP k.blk 2 _),O (dx t (aaJ _))⟩
end
theorem Zi {g:Nat}{ay:Bool}{w0 w c:World}{s:bC}{its:List Int}{a:kJ}{Y G:Bs}{t:ByteArray}{iv nv lv:Value}{xs:List NV}{id:Int}(f:bZ ay s=a)(e:aN a.pc ++ dQ s=Y)(d:bG ay a.st=G)(hi:a.ix=id)(i:t=aM (Y ++ G ++ [59]))(h:dY g ay iv c (aX ay a.st) xs nv lv)(l:jG w0 c xs iv (its ++ [id]))(b:Below g w c):mh g ay w0 w its (dM ay s) (.returned (.string t)) c:=by
 subst f d hi
 refine⟨?_,iv,xs,nv,lv,h,l,b⟩
 rw [i,← e]
 show _=Ending.returned (.string (aM (aN ((bZ ay s).pc ++ [(dQ s ++ bG ay (bZ ay s).st,4,[59])]))))
 rw [qZ];simp only [aN];simp only [List.append_nil,List.append_assoc]
theorem wC (r:Nat)(h:r < 9)(w:World):Sem.run Tryz.prog (Instr.index 164 (.agg #[.string ⟨#[]⟩,.string ⟨#[109,117,115,116]⟩,.string ⟨#[109,97,121]⟩,.string ⟨#[99,111,117,110,116]⟩,.string ⟨#[98,111,117,110,100,115]⟩,.string ⟨#[118,97,108,117,101,115]⟩,.string ⟨#[119,104,121]⟩,.string ⟨#[98,108,97,109,101]⟩,.string ⟨#[108,111,111,107]⟩]) (.int .i64 r)) w=.ok (.string (aM (sg jr r))) w:=by
 obtain rfl | rfl | rfl | rfl | rfl | rfl | rfl | rfl | rfl:r=0∨r=1∨r=2∨r=3∨r=4∨r=5∨r=6∨r=7∨r=8:=by omega
 all_goals kernel_rfl
theorem XA {ay:Bool}{g:Nat}{iv:Value}{w0 w:World}{s:bC}{xs:List NV}{nv lv:Value}{its:List Int}(H:Hid (dY g ay iv w s xs nv lv))(c:Hid (jG w0 w xs iv its))(hw:w0.heap.size≤w.heap.size)(hg:g < w0.heap.size)(a8:its.length≤1000)(hn:s.ns.length≤100000)(L:s.nx % 7=3) :
  Calls Tryz.prog 72 #[.pointer (some ⟨g,0,none⟩)] w (mh g ay w0 w its (dM ay s)):=by
 obtain⟨Ai,ci,y⟩:=dh c.o.row;subst y;obtain⟨j0,A,B,C,D⟩:=info_parts gN;have Ql:=O fun (row:Option Nat) (w':World) (m:Mv g nv.ownBlock w row w')=>H.o.low m
 have M:=O (iL.refl (g:=g) (w:=w) (xs:=xs) (nv:=nv));have QB:=O (cB.lt c.o.row);obtain⟨E,K⟩:∃ E,Hid (bB ay 4=E):=⟨_,O rfl⟩;have X:=O (UJ ay);rw [K.o] at X
 have OT:Int.tmod (s.nx:Int) 7=3:=by rw [Int.tmod_eq_emod_of_nonneg (by omega)];omega
 have I:=O (show bZ ay s=mM ay (bA s.tl.nx) s.tl.tl by unfold bZ;simp only;rw [if_neg (by omega),if_neg (by omega),if_neg (by omega),if_pos L]);have JW:=O (show dQ s=[] from if_neg (fun h=>by omega));go_in
 go_wp2_with fail;refine (zS H M).mono ?_;clear H M;rintro e w1⟨oI,rfl,q1,H,M,R⟩
 replace c:=kp R c
 clear R;go_wp2_with fail;refine (zS H M).mono ?_;clear H M;rintro e w2⟨BX,rfl,q2,H,M,R⟩
 replace c:=kp R c
 clear R;go_wp2_with fail;refine (Qe (s.tl.nx) _).mono ?_;rintro e w3⟨x,rfl,W,lx,rfl⟩;rw [W.o] at I
 clear L;go_wp2_with fail;refine (J2 H M X (by omega)).mono ?_;clear H M;rintro e w4⟨b,t,b1,yH,KF,rfl,fq,Ji,UO,b0,a0,H,M,R⟩
 replace c:=kp R c
 clear R;have sV:¬ 9223372036854775807 < 4+x.length:=by omega
 have wh:¬ 9223372036854775807 < 4+x.length+1:=by omega
 go_wp2_with fail;refine (wP H M).mono ?_;clear H M;rintro e w5⟨j,SG,rfl,Qy,a7,q5,H,M,R⟩
 replace c:=kp R c
 clear R;clear sV wh;have Ih:¬ 9223372036854775807 < 4+x.length:=by omega
 have Ik:¬ 9223372036854775807 < 4+x.length+1:=by omega
 have JZ:¬ 9223372036854775807 < 4+x.length+1+j.length:=by omega
 have Kn:¬ 9223372036854775807 < 4+x.length+1+j.length+t.length:=by omega
 go_wp2_with fail;obtain⟨Y,r⟩:∃ Y:Bs,Hid ([108,101,116,32] ++ x ++ [61] ++ j ++ t=Y):=⟨_,O rfl⟩;rw [show (⟨#[108,101,116,32]⟩:ByteArray) ++ aM (x) ++ (⟨#[61]⟩:ByteArray) ++ aM (j) ++ aM (t)=aM Y from by rw [← r.o] <;> (simp only [← ak];rfl)];have BF:Y.length≤10000000:=by rw [← r.o];simp only [aaO,List.length_cons,List.length_nil];omega
 refine (Vb H M [b.ix] (by simp) (by omega)).mono ?_;clear H M;rintro e w6⟨b2,XB,rfl,H,M,R⟩
 replace c:=kp R c
 clear R
 have V:=O (show mM ay x s.tl.tl=bH (([],3,[108,101,116]) :: ([32],1,x) :: bP [61] :: bN.on j b.pc) (aX ay (b.st)) ⟨43,x,0,[b.ix],0⟩ from by
  unfold mM
  try simp only
  rw [K.o,fq.o,Qy.o] <;> rfl)
 have F:aN (([],3,[108,101,116]) :: ([32],1,x) :: bP [61] :: bN.on j b.pc) ++ dQ s=Y:=by
  rw [JW.o,List.append_nil];simp only [aN,qZ,bP];rw [UO.o,← r.o] <;> simp only [List.nil_append,List.append_nil,List.append_assoc,List.cons_append]
 have Z:=O F;clear F;obtain⟨id,P⟩:∃ id,Hid (bC.id (aX ay (b.st))=id):=⟨_,O rfl⟩;rw [P.o];have i:=(c.o.alloc (.cells #[.int .i64 id] 3)).row;have q:=O i;have cI:=H.o.blk.cell 2;clear i;go_wp2_with (at_builtin;go_loud (refine wpList_append_lies _ rfl (.tmp 234) (.tmp 236) 24 rfl 0 3 j0 (.int .i64 0) 1 8 Tryz.underlying24 A B C D rfl (by decide) _ its.length (intCells its) rfl q.o ⟨w6.heap.size,0,none⟩ 1 1 [.int .i64 id] rfl rfl (cell_one_new _ _ _) (by intro u N;simp at N;subst N;rfl) (by omega) (by simp only [maxLen];omega) (by omega) (aaL _) _ rfl ?_);intro gg a2 Tx f d k a9;obtain⟨n,l,Kg,S⟩:=Zc H M rfl Ql c hw hg f d k;have a1:=n.cell 2;have a6:=n.frozen 2;clear f d k n)
 refine (dF g ay _ _ ((aX ay (b.st)).put ⟨43,x,0,[b.ix],0⟩) _ _ _ l.o).mono ?_;rintro e Us⟨rfl,KO,h,m⟩;have U:=O h;have L5:=O (Kg.o.mv l.o m);have Q:=O (S.o.trans (l.o.low m));clear h m;have T:=eU ay ((aX ay (b.st)).put ⟨43,x,0,[b.ix],0⟩);obtain⟨G,J⟩:∃ G,Hid (bG ay ((aX ay (b.st)).put ⟨43,x,0,[b.ix],0⟩)=G):=⟨_,O rfl⟩;rw [J.o] at T ⊢
 have a3:¬ 9223372036854775807 < Y.length+G.length:=by omega
 have a5:¬ 9223372036854775807 < Y.length+G.length+1:=by omega
 go_wp2_with fail;go_ret;exact Zi (a:=bH (([],3,[108,101,116]) :: ([32],1,x) :: bP [61] :: bN.on j b.pc) (aX ay (b.st)) ⟨43,x,0,[b.ix],0⟩) (I.o.trans V.o) Z.o J.o P.o (by first|(rw [← ak];rfl)|(rw [← ak,← ak];rfl)) U.o L5.o Q.o
theorem KU {ay:Bool}{g:Nat}{iv:Value}{w0 w:World}{s:bC}{xs:List NV}{nv lv:Value}{its:List Int}(H:Hid (dY g ay iv w s xs nv lv))(c:Hid (jG w0 w xs iv its))(hw:w0.heap.size≤w.heap.size)(hg:g < w0.heap.size)(a8:its.length≤1000)(hn:s.ns.length≤100000)(L:s.nx % 7=4) :
  Calls Tryz.prog 72 #[.pointer (some ⟨g,0,none⟩)] w (mh g ay w0 w its (dM ay s)):=by
 obtain⟨Ai,ci,y⟩:=dh c.o.row;subst y;obtain⟨j0,A,B,C,D⟩:=info_parts gN;have Ql:=O fun (row:Option Nat) (w':World) (m:Mv g nv.ownBlock w row w')=>H.o.low m
 have M:=O (iL.refl (g:=g) (w:=w) (xs:=xs) (nv:=nv));have QB:=O (cB.lt c.o.row);obtain⟨E,K⟩:∃ E,Hid (bB ay 4=E):=⟨_,O rfl⟩;have X:=O (UJ ay);rw [K.o] at X
 have OT:Int.tmod (s.nx:Int) 7=4:=by rw [Int.tmod_eq_emod_of_nonneg (by omega)];omega
 have I:=O (show bZ ay s=ng ay (bA s.tl.nx) s.tl.tl by unfold bZ;simp only;rw [if_neg (by omega),if_neg (by omega),if_neg (by omega),if_neg (by omega),if_pos L]);have JW:=O (show dQ s=[] from if_neg (fun h=>by omega));go_in
 go_wp2_with fail;refine (zS H M).mono ?_;clear H M;rintro e w1⟨oI,rfl,q1,H,M,R⟩
 replace c:=kp R c
 clear R;go_wp2_with fail;refine (zS H M).mono ?_;clear H M;rintro e w2⟨BX,rfl,q2,H,M,R⟩
 replace c:=kp R c
 clear R;go_wp2_with fail;refine (Qe (s.tl.nx) _).mono ?_;rintro e w3⟨x,rfl,W,lx,rfl⟩;rw [W.o] at I
 clear L;go_wp2_with fail;refine (J2 H M X (by omega)).mono ?_;clear H M;rintro e w4⟨b,t,b1,yH,KF,rfl,fq,Ji,UO,b0,a0,H,M,R⟩
 replace c:=kp R c
 clear R;have sV:¬ 9223372036854775807 < 8+x.length:=by omega
 go_wp2_with fail;refine (wP H M).mono ?_;clear H M;rintro e w5⟨j,SG,rfl,Qy,a7,q5,H,M,R⟩
 replace c:=kp R c
 clear R;clear sV;have Ih:¬ 9223372036854775807 < 8+x.length:=by omega
 have Ik:¬ 9223372036854775807 < 8+x.length+j.length:=by omega
 have JZ:¬ 9223372036854775807 < 8+x.length+j.length+1:=by omega
 have Kn:¬ 9223372036854775807 < 8+x.length+j.length+1+t.length:=by omega
 go_wp2_with fail;obtain⟨Y,r⟩:∃ Y:Bs,Hid ([111,98,115,101,114,118,101,32] ++ x ++ j ++ [58] ++ t=Y):=⟨_,O rfl⟩;rw [show (⟨#[111,98,115,101,114,118,101,32]⟩:ByteArray) ++ aM (x) ++ aM (j) ++ (⟨#[58]⟩:ByteArray) ++ aM (t)=aM Y from by rw [← r.o] <;> (simp only [← ak];rfl)];have BF:Y.length≤10000000:=by rw [← r.o];simp only [aaO,List.length_cons,List.length_nil];omega
 refine (Vb H M [b.ix] (by simp) (by omega)).mono ?_;clear H M;rintro e w6⟨b2,XB,rfl,H,M,R⟩
 replace c:=kp R c
 clear R
 have V:=O (show ng ay x s.tl.tl=bH (([],3,[111,98,115,101,114,118,101]) :: ([32],1,x) :: (j,4,[58]) :: b.pc) (aX ay (b.st)) ⟨44,x,0,[b.ix],0⟩ from by
  unfold ng
  try simp only
  rw [K.o,fq.o,Qy.o] <;> rfl)
 have F:aN (([],3,[111,98,115,101,114,118,101]) :: ([32],1,x) :: (j,4,[58]) :: b.pc) ++ dQ s=Y:=by
  rw [JW.o,List.append_nil];simp only [aN,qZ,bP];rw [Ji.o,← r.o] <;> simp only [List.nil_append,List.append_nil,List.append_assoc,List.cons_append]
 have Z:=O F;clear F;obtain⟨id,P⟩:∃ id,Hid (bC.id (aX ay (b.st))=id):=⟨_,O rfl⟩;rw [P.o];have i:=(c.o.alloc (.cells #[.int .i64 id] 3)).row;have q:=O i;have cI:=H.o.blk.cell 2;clear i;go_wp2_with (at_builtin;go_loud (refine wpList_append_lies _ rfl (.tmp 234) (.tmp 236) 24 rfl 0 3 j0 (.int .i64 0) 1 8 Tryz.underlying24 A B C D rfl (by decide) _ its.length (intCells its) rfl q.o ⟨w6.heap.size,0,none⟩ 1 1 [.int .i64 id] rfl rfl (cell_one_new _ _ _) (by intro u N;simp at N;subst N;rfl) (by omega) (by simp only [maxLen];omega) (by omega) (aaL _) _ rfl ?_);intro gg a2 Tx f d k a9;obtain⟨n,l,Kg,S⟩:=Zc H M rfl Ql c hw hg f d k;have a1:=n.cell 2;have a6:=n.frozen 2;clear f d k n)
 refine (dF g ay _ _ ((aX ay (b.st)).put ⟨44,x,0,[b.ix],0⟩) _ _ _ l.o).mono ?_;rintro e Us⟨rfl,KO,h,m⟩;have U:=O h;have L5:=O (Kg.o.mv l.o m);have Q:=O (S.o.trans (l.o.low m));clear h m;have T:=eU ay ((aX ay (b.st)).put ⟨44,x,0,[b.ix],0⟩);obtain⟨G,J⟩:∃ G,Hid (bG ay ((aX ay (b.st)).put ⟨44,x,0,[b.ix],0⟩)=G):=⟨_,O rfl⟩;rw [J.o] at T ⊢
 have a3:¬ 9223372036854775807 < Y.length+G.length:=by omega
 have a5:¬ 9223372036854775807 < Y.length+G.length+1:=by omega
 go_wp2_with fail;go_ret;exact Zi (a:=bH (([],3,[111,98,115,101,114,118,101]) :: ([32],1,x) :: (j,4,[58]) :: b.pc) (aX ay (b.st)) ⟨44,x,0,[b.ix],0⟩) (I.o.trans V.o) Z.o J.o P.o (by first|(rw [← ak];rfl)|(rw [← ak,← ak];rfl)) U.o L5.o Q.o
theorem KV {ay:Bool}{g:Nat}{iv:Value}{w0 w:World}{s:bC}{xs:List NV}{nv lv:Value}{its:List Int}(H:Hid (dY g ay iv w s xs nv lv))(b:Hid (jG w0 w xs iv its))(hw:w0.heap.size≤w.heap.size)(hg:g < w0.heap.size)(a6:its.length≤1000)(hn:s.ns.length≤100000)(F:s.nx % 7=5) :
  Calls Tryz.prog 72 #[.pointer (some ⟨g,0,none⟩)] w (mh g ay w0 w its (dM ay s)):=by
 obtain⟨Ai,ci,r⟩:=dh b.o.row;subst r;obtain⟨j0,t,y,A,B⟩:=info_parts gN;have Z:=O fun (row:Option Nat) (w':World) (m:Mv g nv.ownBlock w row w')=>H.o.low m
 have M:=O (iL.refl (g:=g) (w:=w) (xs:=xs) (nv:=nv));have QB:=O (cB.lt b.o.row);have OT:Int.tmod (s.nx:Int) 7=5:=by rw [Int.tmod_eq_emod_of_nonneg (by omega)];omega
 have D:=O (show bZ ay s=oP ay (bA s.tl.nx) s.tl.tl by unfold bZ;simp only;rw [if_neg (by omega),if_neg (by omega),if_neg (by omega),if_neg (by omega),if_neg (by omega),if_pos F]);have U:=O (show dQ s=[] from if_neg (fun h=>by omega));go_in
 go_wp2_with fail;refine (zS H M).mono ?_;clear H M;rintro e w1⟨oI,rfl,q1,H,M,R⟩
 replace b:=kp R b
 clear R;go_wp2_with fail;refine (zS H M).mono ?_;clear H M;rintro e w2⟨BX,rfl,q2,H,M,R⟩
 replace b:=kp R b
 clear R;go_wp2_with fail;refine (Qe (s.tl.nx) _).mono ?_;rintro e w3⟨x,rfl,S,lx,rfl⟩;rw [S.o] at D
 clear F;go_wp2_with fail;refine (wP H M).mono ?_;clear H M;rintro e w4⟨i,KF,rfl,V,a5,q4,H,M,R⟩
 replace b:=kp R b
 clear R;have Ih:¬ 9223372036854775807 < 7+i.length:=by omega
 have Ik:¬ 9223372036854775807 < 7+i.length+x.length:=by omega
 go_wp2_with fail;obtain⟨Y,q⟩:∃ Y:Bs,Hid ([114,101,116,114,97,99,116] ++ i ++ x=Y):=⟨_,O rfl⟩;rw [show (⟨#[114,101,116,114,97,99,116]⟩:ByteArray) ++ aM (i) ++ aM (x)=aM Y from by rw [← q.o] <;> (simp only [← ak];rfl)];have BF:Y.length≤10000000:=by rw [← q.o];simp only [aaO,List.length_cons,List.length_nil];omega
 refine (ptN H M (by omega)).mono ?_;clear H M;rintro e w5⟨a8,Fu,rfl,H,M,R⟩
 replace b:=kp R b
 clear R
 have Q:=O (show oP ay x s.tl.tl=bH [([],3,[114,101,116,114,97,99,116]),(i,1,x)] (aX ay (s.tl.tl)) ⟨45,x,0,[],0⟩ from by
  unfold oP
  try simp only
  rw [V.o] <;> rfl)
 have C:aN [([],3,[114,101,116,114,97,99,116]),(i,1,x)] ++ dQ s=Y:=by
  rw [U.o,List.append_nil];simp only [aN,qZ,bP];rw [← q.o] <;> simp only [List.nil_append,List.append_nil,List.append_assoc,List.cons_append]
 have T:=O C;clear C;obtain⟨id,J⟩:∃ id,Hid (bC.id (aX ay (s.tl.tl))=id):=⟨_,O rfl⟩;rw [J.o];have f:=(b.o.alloc (.cells #[.int .i64 id] 3)).row;have n:=O f;have cI:=H.o.blk.cell 2;clear f;go_wp2_with (at_builtin;go_loud (refine wpList_append_lies _ rfl (.tmp 234) (.tmp 236) 24 rfl 0 3 j0 (.int .i64 0) 1 8 Tryz.underlying24 t y A B rfl (by decide) _ its.length (intCells its) rfl n.o ⟨w5.heap.size,0,none⟩ 1 1 [.int .i64 id] rfl rfl (cell_one_new _ _ _) (by intro u I;simp at I;subst I;rfl) (by omega) (by simp only [maxLen];omega) (by omega) (aaL _) _ rfl ?_);intro gg a1 Tx d c j a7;obtain⟨l,k,W,L⟩:=Zc H M rfl Z b hw hg d c j;have a0:=l.cell 2;have a4:=l.frozen 2;clear d c j l)
 refine (dF g ay _ _ ((aX ay (s.tl.tl)).put ⟨45,x,0,[],0⟩) _ _ _ k.o).mono ?_;rintro e Us⟨rfl,KO,h,m⟩;have P:=O h;have X:=O (W.o.mv k.o m);have K:=O (L.o.trans (k.o.low m));clear h m;have N:=eU ay ((aX ay (s.tl.tl)).put ⟨45,x,0,[],0⟩);obtain⟨G,E⟩:∃ G,Hid (bG ay ((aX ay (s.tl.tl)).put ⟨45,x,0,[],0⟩)=G):=⟨_,O rfl⟩;rw [E.o] at N ⊢
 have a2:¬ 9223372036854775807 < Y.length+G.length:=by omega
 have a3:¬ 9223372036854775807 < Y.length+G.length+1:=by omega
 go_wp2_with fail;go_ret;exact Zi (a:=bH [([],3,[114,101,116,114,97,99,116]),(i,1,x)] (aX ay (s.tl.tl)) ⟨45,x,0,[],0⟩) (D.o.trans Q.o) T.o E.o J.o (by first|(rw [← ak];rfl)|(rw [← ak,← ak];rfl)) P.o X.o K.o
theorem Po {ay:Bool}{g:Nat}{iv:Value}{w0 w:World}{s:bC}{xs:List NV}{nv lv:Value}{its:List Int}(H:Hid (dY g ay iv w s xs nv lv))(b:Hid (jG w0 w xs iv its))(hw:w0.heap.size≤w.heap.size)(hg:g < w0.heap.size)(c2:its.length≤1000)(hn:s.ns.length≤100000)(hb:s.nx % 7=0) :
  Calls Tryz.prog 72 #[.pointer (some ⟨g,0,none⟩)] w (mh g ay w0 w its (dM ay s)):=by
 obtain⟨Ai,ci,P⟩:=dh b.o.row;subst P;obtain⟨j0,Q,U,V,W⟩:=info_parts gN;have Ql:=O fun (row:Option Nat) (w':World) (m:Mv g nv.ownBlock w row w')=>H.o.low m
 have M:=O (iL.refl (g:=g) (w:=w) (xs:=xs) (nv:=nv));have QB:=O (cB.lt b.o.row);have OT:Int.tmod (s.nx:Int) 7=0:=by rw [Int.tmod_eq_emod_of_nonneg (by omega)];omega
 have HB:=O (show bZ ay s=oG ay (bA s.tl.nx) s.tl.tl by unfold bZ;simp only;rw [if_pos hb]);have JW:=O (show dQ s=[] from if_neg (fun h=>by omega));go_in
 go_wp2_with fail;refine (zS H M).mono ?_;clear H M;rintro e w1⟨oI,rfl,q1,H,M,R⟩
 replace b:=kp R b
 clear R;go_wp2_with fail;refine (zS H M).mono ?_;clear H M;rintro e w2⟨BX,rfl,q2,H,M,R⟩
 replace b:=kp R b
 clear R;go_wp2_with fail;refine (Qe (s.tl.nx) _).mono ?_;rintro e w3⟨x,rfl,Hx,lx,rfl⟩;rw [Hx.o] at HB
 clear hb;obtain⟨q,T⟩:∃ m,m=(s.tl.tl).nx % 30:=⟨_,rfl⟩;have zq:Int.tmod ((s.tl.tl).nx:Int) 30=(q:Int):=by rw [Int.tmod_eq_emod_of_nonneg (by omega),T];omega
 have L:=O T.symm;have a9:q≤29:=by omega
 clear T;obtain⟨low,k⟩:∃ low:Int,low=(q:Int) - 15:=⟨_,rfl⟩;have a6:IntKind.i64.wrap ((q:Int) - 15)=low:=by rw [IntWalk.i64_in _ (by omega),k]
 have Bu:=O k.symm;have c4:-15≤low:=by omega
 have c5:low≤14:=by omega
 clear k;go_wp2_with fail;refine (zS H M).mono ?_;clear H M;rintro e w4⟨KF,rfl,q4,H,M,R⟩
 replace b:=kp R b
 clear R;go_wp2_with fail;refine (nbH H M (n:=low) (by omega) (by omega) (by omega)).mono ?_;clear H M;rintro e w5⟨i,f,d5,Fu,SG,rfl,jX,zO,K,d3,b0,H,M,R⟩
 replace b:=kp R b
 clear R;obtain⟨p,S⟩:∃ m,m=(i.st).nx % 12:=⟨_,rfl⟩;have zp:Int.tmod ((i.st).nx:Int) 12=(p:Int):=by rw [Int.tmod_eq_emod_of_nonneg (by omega),S];omega
 have Hp:=O S.symm;have bp:p≤11:=by omega
 clear S;have d7:IntKind.i64.wrap (low+(p:Int))=low+(p:Int):=IntWalk.i64_in _ (by omega);go_wp2_with fail;refine (zS H M).mono ?_;clear H M;rintro e w6⟨c7,rfl,q6,H,M,R⟩
 replace b:=kp R b
 clear R;go_wp2_with fail;refine (nbH H M (n:=low+(p:Int)) (by omega) (by omega) (by omega)).mono ?_;clear H M;rintro e w7⟨d,J,d6,d1,c8,rfl,o9,a4,N,d4,b1,H,M,R⟩
 replace b:=kp R b
 clear R;have sV:¬ 9223372036854775807 < 7+x.length:=by omega
 have wh:¬ 9223372036854775807 < 7+x.length+1:=by omega
 go_wp2_with fail;refine (wP H M).mono ?_;clear H M;rintro e w8⟨c,c9,rfl,C,c1,q8,H,M,R⟩
 replace b:=kp R b
 clear R;clear sV wh;have yX:¬ 9223372036854775807 < 7+x.length:=by omega
 have y5:¬ 9223372036854775807 < 7+x.length+1:=by omega
 have H7:¬ 9223372036854775807 < 7+x.length+1+c.length:=by omega
 have H8:¬ 9223372036854775807 < 7+x.length+1+c.length+f.length:=by omega
 go_wp2_with fail;refine (wP H M).mono ?_;clear H M;rintro e w9⟨l,d0,rfl,D,Z,a8,H,M,R⟩
 replace b:=kp R b
 clear R;clear yX y5 H7 H8;have y7:¬ 9223372036854775807 < 7+x.length:=by omega
 have zo:¬ 9223372036854775807 < 7+x.length+1:=by omega
 have zx:¬ 9223372036854775807 < 7+x.length+1+c.length:=by omega
 have zB:¬ 9223372036854775807 < 7+x.length+1+c.length+f.length:=by omega
 have CO:¬ 9223372036854775807 < 7+x.length+1+c.length+f.length+l.length:=by omega
 have Ig:¬ 9223372036854775807 < 7+x.length+1+c.length+f.length+l.length+2:=by omega
 go_wp2_with fail;refine (wP H M).mono ?_;clear H M;rintro e Qv⟨y,a1,rfl,Qx,a0,d2,H,M,R⟩
 replace b:=kp R b
 clear R;clear y7 zo zx zB CO Ig;have Ih:¬ 9223372036854775807 < 7+x.length:=by omega
 have Ik:¬ 9223372036854775807 < 7+x.length+1:=by omega
 have JZ:¬ 9223372036854775807 < 7+x.length+1+c.length:=by omega
 have Kn:¬ 9223372036854775807 < 7+x.length+1+c.length+f.length:=by omega
 have b4:¬ 9223372036854775807 < 7+x.length+1+c.length+f.length+l.length:=by omega
 have b5:¬ 9223372036854775807 < 7+x.length+1+c.length+f.length+l.length+2:=by omega
 have b6:¬ 9223372036854775807 < 7+x.length+1+c.length+f.length+l.length+2+y.length:=by omega
 have b7:¬ 9223372036854775807 < 7+x.length+1+c.length+f.length+l.length+2+y.length+J.length:=by omega
 go_wp2_with fail;obtain⟨Y,I⟩:∃ Y:Bs,Hid ([99,104,111,111,115,101,32] ++ x ++ [58] ++ c ++ f ++ l ++ [46,46] ++ y ++ J=Y):=⟨_,O rfl⟩;rw [show (⟨#[99,104,111,111,115,101,32]⟩:ByteArray) ++ aM (x) ++ (⟨#[58]⟩:ByteArray) ++ aM (c) ++ aM (f) ++ aM (l) ++ (⟨#[46,46]⟩:ByteArray) ++ aM (y) ++ aM (J)=aM Y from by rw [← I.o] <;> (simp only [← ak];rfl)];have BF:Y.length≤10000000:=by rw [← I.o];simp only [aaO,List.length_cons,List.length_nil];omega
 refine (Vb H M [i.ix,d.ix] (by simp) (by omega)).mono ?_;clear H M;rintro e Et⟨a3,a2,rfl,H,M,R⟩
 replace b:=kp R b
 clear R
 have HF:=O (show oG ay x s.tl.tl=bH (([],3,[99,104,111,111,115,101]) :: ([32],1,x) :: bP [58] :: (bN.on c i.pc ++ (l,4,[46,46]) :: bN.on y d.pc)) (aX ay (aX ay (aX ay (d.st)))) ⟨40,x,0,[i.ix,d.ix],0⟩ from by
  unfold oG
  try simp only
  rw [L.o,Bu.o,jX.o,Hp.o,o9.o,C.o,D.o,Qx.o] <;> rfl)
 have X:aN (([],3,[99,104,111,111,115,101]) :: ([32],1,x) :: bP [58] :: (bN.on c i.pc ++ (l,4,[46,46]) :: bN.on y d.pc)) ++ dQ s=Y:=by
  rw [JW.o,List.append_nil];simp only [aN,qZ,bP];rw [K.o,N.o,← I.o] <;> simp only [List.nil_append,List.append_nil,List.append_assoc,List.cons_append]
 have J4:=O X;clear X;obtain⟨id,qP⟩:∃ id,Hid (bC.id (aX ay (aX ay (aX ay (d.st))))=id):=⟨_,O rfl⟩;rw [qP.o];have t:=(b.o.alloc (.cells #[.int .i64 id] 3)).row;have F:=O t;have cI:=H.o.blk.cell 2;clear t;go_wp2_with (at_builtin;go_loud (refine wpList_append_lies _ rfl (.tmp 234) (.tmp 236) 24 rfl 0 3 j0 (.int .i64 0) 1 8 Tryz.underlying24 Q U V W rfl (by decide) _ its.length (intCells its) rfl F.o ⟨Et.heap.size,0,none⟩ 1 1 [.int .i64 id] rfl rfl (cell_one_new _ _ _) (by intro u hu;simp at hu;subst hu;rfl) (by omega) (by simp only [maxLen];omega) (by omega) (aaL _) _ rfl ?_);intro gg b3 Tx r j A c6;obtain⟨E,B,Kg,B9⟩:=Zc H M rfl Ql b hw hg r j A;have b2:=E.cell 2;have c0:=E.frozen 2;clear r j A E)
 refine (dF g ay _ _ ((aX ay (aX ay (aX ay (d.st)))).put ⟨40,x,0,[i.ix,d.ix],0⟩) _ _ _ B.o).mono ?_;rintro e Us⟨rfl,KO,h,m⟩;have H5:=O h;have L5:=O (Kg.o.mv B.o m);have B5:=O (B9.o.trans (B.o.low m));clear h m;have Z:=eU ay ((aX ay (aX ay (aX ay (d.st)))).put ⟨40,x,0,[i.ix,d.ix],0⟩);obtain⟨G,HG⟩:∃ G,Hid (bG ay ((aX ay (aX ay (aX ay (d.st)))).put ⟨40,x,0,[i.ix,d.ix],0⟩)=G):=⟨_,O rfl⟩;rw [HG.o] at Z ⊢
 have b8:¬ 9223372036854775807 < Y.length+G.length:=by omega
 have b9:¬ 9223372036854775807 < Y.length+G.length+1:=by omega
 go_wp2_with fail;go_ret;exact Zi (a:=bH (([],3,[99,104,111,111,115,101]) :: ([32],1,x) :: bP [58] :: (bN.on c i.pc ++ (l,4,[46,46]) :: bN.on y d.pc)) (aX ay (aX ay (aX ay (d.st)))) ⟨40,x,0,[i.ix,d.ix],0⟩) (HB.o.trans HF.o) J4.o HG.o qP.o (by first|(rw [← ak];rfl)|(rw [← ak,← ak];rfl)) H5.o L5.o B5.o
theorem XD {ay:Bool}{g:Nat}{iv:Value}{w0 w:World}{s:bC}{xs:List NV}{nv lv:Value}{its:List Int}(H:Hid (dY g ay iv w s xs nv lv))(b:Hid (jG w0 w xs iv its))(hw:w0.heap.size≤w.heap.size)(hg:g < w0.heap.size)(a7:its.length≤1000)(hn:s.ns.length≤100000)(L:s.nx % 7=1) :
  Calls Tryz.prog 72 #[.pointer (some ⟨g,0,none⟩)] w (mh g ay w0 w its (dM ay s)):=by
 obtain⟨Ai,ci,B⟩:=dh b.o.row;subst B;obtain⟨j0,C,D,E,F⟩:=info_parts gN;have Ql:=O fun (row:Option Nat) (w':World) (m:Mv g nv.ownBlock w row w')=>H.o.low m
 have M:=O (iL.refl (g:=g) (w:=w) (xs:=xs) (nv:=nv));have QB:=O (cB.lt b.o.row);have OT:Int.tmod (s.nx:Int) 7=1:=by rw [Int.tmod_eq_emod_of_nonneg (by omega)];omega
 have J:=O (show bZ ay s=Ah ay (bA s.tl.nx) s.tl.tl by unfold bZ;simp only;rw [if_neg (by omega),if_pos L]);have JW:=O (show dQ s=[] from if_neg (fun h=>by omega));go_in
 go_wp2_with fail;refine (zS H M).mono ?_;clear H M;rintro e w1⟨oI,rfl,q1,H,M,R⟩
 replace b:=kp R b
 clear R;go_wp2_with fail;refine (zS H M).mono ?_;clear H M;rintro e w2⟨BX,rfl,q2,H,M,R⟩
 replace b:=kp R b
 clear R;go_wp2_with fail;refine (Qe (s.tl.nx) _).mono ?_;rintro e w3⟨x,rfl,X,lx,rfl⟩;rw [X.o] at J
 clear L;obtain⟨l,j⟩:∃ m,m=(s.tl.tl).nx % 6:=⟨_,rfl⟩;have b3:Int.tmod ((s.tl.tl).nx:Int) 6=(l:Int):=by rw [Int.tmod_eq_emod_of_nonneg (by omega),j];omega
 have A:=O j.symm;have a0:l≤5:=by omega
 clear j;have b2:IntKind.i64.wrap (1+(l:Int))=((1+l:Nat):Int):=by rw [IntWalk.i64_in _ (by omega)];omega
 go_wp2_with fail;refine (zS H M).mono ?_;clear H M;rintro e w4⟨KF,rfl,q4,H,M,R⟩
 replace b:=kp R b
 clear R;go_wp2_with fail;refine (prH H M (m:=1+l) (by omega) (by omega)).mono ?_;clear H M;rintro e w5⟨c,n,A5,c5,b0,Fu,SG,rfl,jX,zO,a9,a1,N,LL,H,M,R⟩
 replace b:=kp R b
 clear R;have Ih:¬ 9223372036854775807 < 5+x.length:=by omega
 have Ik:¬ 9223372036854775807 < 5+x.length+2:=by omega
 have JZ:¬ 9223372036854775807 < 5+x.length+2+n.length:=by omega
 have Kn:¬ 9223372036854775807 < 5+x.length+2+n.length+1:=by omega
 go_wp2_with fail;obtain⟨Y,y⟩:∃ Y:Bs,Hid ([116,121,112,101,32] ++ x ++ [61,123] ++ n ++ [125]=Y):=⟨_,O rfl⟩;rw [show (⟨#[116,121,112,101,32]⟩:ByteArray) ++ aM (x) ++ (⟨#[61,123]⟩:ByteArray) ++ aM (n) ++ (⟨#[125]⟩:ByteArray)=aM Y from by rw [← y.o] <;> (simp only [← ak];rfl)];have BF:Y.length≤10000000:=by rw [← y.o];simp only [aaO,List.length_cons,List.length_nil];omega
 refine (Zw H M LL (by omega)).mono ?_;clear H M;rintro e w6⟨b1,XB,rfl,H,M,R⟩
 replace b:=O (R.o _ _ _ QB.o b.o)
 clear R
 have W:=O (show Ah ay x s.tl.tl=bH (([],3,[116,121,112,101]) :: ([32],1,x) :: bP [61] :: bP [123] :: (c.pc ++ [bP [125]])) (c.st) ⟨41,x,0,c.ix,0⟩ from by
  unfold Ah
  try simp only
  rw [A.o,jX.o] <;> rfl)
 have I:aN (([],3,[116,121,112,101]) :: ([32],1,x) :: bP [61] :: bP [123] :: (c.pc ++ [bP [125]])) ++ dQ s=Y:=by
  rw [JW.o,List.append_nil];simp only [aN,qZ,bP];rw [zO.o,← y.o] <;> simp only [List.nil_append,List.append_nil,List.append_assoc,List.cons_append]
 have Z:=O I;clear I;obtain⟨id,Q⟩:∃ id,Hid (bC.id (c.st)=id):=⟨_,O rfl⟩;rw [Q.o];have i:=(b.o.alloc (.cells #[.int .i64 id] 3)).row;have t:=O i;have cI:=H.o.blk.cell 2;clear i;go_wp2_with (at_builtin;go_loud (refine wpList_append_lies _ rfl (.tmp 234) (.tmp 236) 24 rfl 0 3 j0 (.int .i64 0) 1 8 Tryz.underlying24 C D E F rfl (by decide) _ its.length (intCells its) rfl t.o ⟨w6.heap.size,0,none⟩ 1 1 [.int .i64 id] rfl rfl (cell_one_new _ _ _) (by intro u P;simp at P;subst P;rfl) (by omega) (by simp only [maxLen];omega) (by omega) (aaL _) _ rfl ?_);intro gg a3 Tx f d k a8;obtain⟨r,q,Kg,T⟩:=Zc H M rfl Ql b hw hg f d k;have a2:=r.cell 2;have a6:=r.frozen 2;clear f d k r)
 refine (dF g ay _ _ ((c.st).put ⟨41,x,0,c.ix,0⟩) _ _ _ q.o).mono ?_;rintro e Us⟨rfl,KO,h,m⟩;have V:=O h;have L5:=O (Kg.o.mv q.o m);have S:=O (T.o.trans (q.o.low m));clear h m;have U:=eU ay ((c.st).put ⟨41,x,0,c.ix,0⟩);obtain⟨G,K⟩:∃ G,Hid (bG ay ((c.st).put ⟨41,x,0,c.ix,0⟩)=G):=⟨_,O rfl⟩;rw [K.o] at U ⊢
 have a4:¬ 9223372036854775807 < Y.length+G.length:=by omega
 have a5:¬ 9223372036854775807 < Y.length+G.length+1:=by omega
 go_wp2_with fail;go_ret;exact Zi (a:=bH (([],3,[116,121,112,101]) :: ([32],1,x) :: bP [61] :: bP [123] :: (c.pc ++ [bP [125]])) (c.st) ⟨41,x,0,c.ix,0⟩) (J.o.trans W.o) Z.o K.o Q.o (by first|(rw [← ak];rfl)|(rw [← ak,← ak];rfl)) V.o L5.o S.o
def L_ (g:Nat)(ay:Bool)(iv:Value)(w:World)(xs:List NV)(nv:Value)(q:Nat)(r:kJ)(e:Ending)(w':World):Prop :=
 e=.returned (.tuple #[.string (aM (aN r.pc ++ (if q=7 then [32] else []))),.int .i64 r.ix])∧∃ xs' eO lW,dY g ay iv w' r.st xs' eO lW∧iL g w xs nv w' xs' eO
theorem SV {ay:Bool}{q:Nat}(G:1≤q)(I:q≤8)(r:q=7){g:Nat}{iv:Value}{w:World}{s:bC}{xs:List NV}{nv lv:Value}(H:Hid (dY g ay iv w s xs nv lv))(hn:s.ns.length≤600000) :
  Calls Tryz.prog 118 #[.pointer (some ⟨g,0,none⟩),.int .i64 (q:Int)] w (L_ g ay iv w xs nv q (qz ay q s)):=by
 have M:=O (iL.refl (g:=g) (w:=w) (xs:=xs) (nv:=nv));have X:=O (UA ay);have B:=O (SB ay);subst r;have x:=wC 7 (by omega);rw [show ((7:Nat):Int)=7 from rfl] at x
 have n:=zX 7 (by omega);obtain⟨a,d⟩:∃ a,Hid (sg jr 7=a):=⟨_,O rfl⟩;rw [d.o] at x n
 have K:(0:Int)≤((7:Nat):Int):=by omega
 have L:((7:Nat):Int) < 9:=by omega
 go_in
 go_wp2_with fail;refine (lsH H M X B (m:=0) (by omega) (by omega)).mono ?_;clear H M;rintro e w1⟨c,l,N,c1,xs1,gW,oI,rfl,f,i,D,C,J,E,k,H,M,-⟩;go_wp2_with fail;refine (wP H M).mono ?_;clear H M;rintro e w2⟨b,Q,rfl,h,F,q2,H,M,R⟩
 replace k:=kp R k
 clear R;have T:¬ 9223372036854775807 < 3+b.length:=by omega
 have U:¬ 9223372036854775807 < 3+b.length+a.length:=by omega
 have V:¬ 9223372036854775807 < 3+b.length+a.length+1:=by omega
 have W:¬ 9223372036854775807 < 3+b.length+a.length+1+l.length:=by omega
 go_wp2_with fail;obtain⟨Y,j⟩:∃ Y:Bs,Hid ([97,115,107] ++ b ++ a ++ [32] ++ l=Y):=⟨_,O rfl⟩;rw [show (⟨#[97,115,107]⟩:ByteArray) ++ aM (b) ++ aM (a) ++ (⟨#[32]⟩:ByteArray) ++ aM (l)=aM Y from by rw [← j.o] <;> (simp only [← ak];rfl)];have P:Y.length≤10000000:=by rw [← j.o];simp only [aaO,List.length_cons,List.length_nil];omega
 refine (Zw H M k (by omega)).mono ?_;clear H M;rintro e w3⟨Z,S,rfl,H,M,-⟩;go_wp2_with fail;go_ret2
 have y:=O (show qz ay 7 s=bH (([],3,[97,115,107]) :: (b,3,a) :: bN.on [32] c.pc) (aX ay (c.st)) ⟨46,[],((7:Nat):Int),c.ix,0⟩ from by
  unfold qz;simp only [↓reduceIte,Nat.reduceEqDiff];rw [f.o,d.o,h.o] <;> rfl)
 rw [y.o]
 refine⟨?_,_,_,_,H.o,M.o⟩
 show _=Ending.returned (.tuple #[.string (aM (aN (([],3,[97,115,107]) :: (b,3,a) :: bN.on [32] c.pc) ++ _)),.int .i64 (aX ay (c.st)).id])
 have A:aN (([],3,[97,115,107]) :: (b,3,a) :: bN.on [32] c.pc) ++ (if 7=7 then [32] else [])=Y:=by
  have t:=i.o;rw [C.o (by first | rfl | trivial)] at t ⊢
  rw [if_pos rfl,← j.o,← t];simp only [aN,bN.on];simp only [List.nil_append,List.append_nil,List.append_assoc,List.cons_append]
 rw [A];rfl
theorem Xw {ay:Bool}{q:Nat}(I:1≤q)(J:q≤8)(x:q=8){g:Nat}{iv:Value}{w:World}{s:bC}{xs:List NV}{nv lv:Value}(H:Hid (dY g ay iv w s xs nv lv))(hn:s.ns.length≤600000) :
  Calls Tryz.prog 118 #[.pointer (some ⟨g,0,none⟩),.int .i64 (q:Int)] w (L_ g ay iv w xs nv q (qz ay q s)):=by
 have M:=O (iL.refl (g:=g) (w:=w) (xs:=xs) (nv:=nv));have X:=O (UA ay);have D:=O (SB ay);subst x;obtain⟨f,h⟩:∃ m,m=(s).nx % 4:=⟨_,rfl⟩;have T:Int.tmod ((s).nx:Int) 4=(f:Int):=by rw [Int.tmod_eq_emod_of_nonneg (by omega),h];omega
 have l:=O h.symm;have F:f≤3:=by omega
 clear h;have P:IntKind.i64.wrap (1+(f:Int))=((1+f:Nat):Int):=by rw [IntWalk.i64_in _ (by omega)];omega
 have y:=wC 8 (by omega);rw [show ((8:Nat):Int)=8 from rfl] at y
 have t:=zX 8 (by omega);obtain⟨a,d⟩:∃ a,Hid (sg jr 8=a):=⟨_,O rfl⟩;rw [d.o] at y t
 have Q:(0:Int)≤((8:Nat):Int):=by omega
 have S:((8:Nat):Int) < 9:=by omega
 go_in
 go_wp2_with fail;refine (zS H M).mono ?_;clear H M;rintro e w1⟨oI,rfl,q1,H,M,-⟩;go_wp2_with fail;refine (lsH H M X D (m:=1+f) (by omega) (by omega)).mono ?_;clear H M;rintro e w2⟨c,r,U,c2,L,Qu,W,rfl,i,C,E,Z2,K,U9,n,H,M,-⟩;go_wp2_with fail;refine (wP H M).mono ?_;clear H M;rintro e w3⟨b,OY,rfl,j,G,q3,H,M,R⟩
 replace n:=kp R n
 clear R;have Z:¬ 9223372036854775807 < 3+b.length:=by omega
 have Ik:¬ 9223372036854775807 < 3+b.length+a.length:=by omega
 have JZ:¬ 9223372036854775807 < 3+b.length+a.length+1:=by omega
 have Kn:¬ 9223372036854775807 < 3+b.length+a.length+1+r.length:=by omega
 go_wp2_with fail;obtain⟨Y,k⟩:∃ Y:Bs,Hid ([97,115,107] ++ b ++ a ++ [32] ++ r=Y):=⟨_,O rfl⟩;rw [show (⟨#[97,115,107]⟩:ByteArray) ++ aM (b) ++ aM (a) ++ (⟨#[32]⟩:ByteArray) ++ aM (r)=aM Y from by rw [← k.o] <;> (simp only [← ak];rfl)];have V:Y.length≤10000000:=by rw [← k.o];simp only [aaO,List.length_cons,List.length_nil];omega
 refine (Zw H M n (by omega)).mono ?_;clear H M;rintro e w4⟨N,yH,rfl,H,M,-⟩;go_wp2_with fail;go_ret2
 have A:=O (show qz ay 8 s=bH (([],3,[97,115,107]) :: (b,3,a) :: bN.on [32] c.pc) (aX ay (c.st)) ⟨46,[],((8:Nat):Int),c.ix,0⟩ from by
  unfold qz;simp only [↓reduceIte,Nat.reduceEqDiff];rw [l.o,i.o,d.o,j.o] <;> rfl)
 rw [A.o]
 refine⟨?_,_,_,_,H.o,M.o⟩
 show _=Ending.returned (.tuple #[.string (aM (aN (([],3,[97,115,107]) :: (b,3,a) :: bN.on [32] c.pc) ++ _)),.int .i64 (aX ay (c.st)).id])
 have B:aN (([],3,[97,115,107]) :: (b,3,a) :: bN.on [32] c.pc) ++ (if 8=7 then [32] else [])=Y:=by
  rw [if_neg (by omega),List.append_nil,← k.o];simp only [aN];rw [E.o (by omega)];simp only [List.nil_append,List.append_nil,List.append_assoc,List.cons_append]
 rw [B];rfl
theorem pa_one {ay:Bool}{q:Nat}(F:1≤q)(G:q≤8)(t:¬ q=7)(f:¬ q=8){g:Nat}{iv:Value}{w:World}{s:bC}{xs:List NV}{nv lv:Value}(H:Hid (dY g ay iv w s xs nv lv))(hn:s.ns.length≤600000) :
  Calls Tryz.prog 118 #[.pointer (some ⟨g,0,none⟩),.int .i64 (q:Int)] w (L_ g ay iv w xs nv q (qz ay q s)):=by
 have M:=O (iL.refl (g:=g) (w:=w) (xs:=xs) (nv:=nv));have X:=O (UA ay);have B:=O (SB ay);have z7:¬ (q:Int)=7:=by omega
 have C:¬ (q:Int)=8:=by omega
 have J:=wC q (by omega);have n:=zX q (by omega);obtain⟨a,d⟩:∃ a,Hid (sg jr q=a):=⟨_,O rfl⟩;rw [d.o] at J n
 have K:(0:Int)≤((q:Nat):Int):=by omega
 have L:((q:Nat):Int) < 9:=by omega
 go_in
 go_wp2_with fail;refine (lsH H M X B (m:=1) (by omega) (by omega)).mono ?_;clear H M;rintro e w1⟨c,l,N,c1,xs1,gW,oI,rfl,h,A,r,Z1,I,D,k,H,M,-⟩;go_wp2_with fail;refine (wP H M).mono ?_;clear H M;rintro e w2⟨b,Q,rfl,i,E,q2,H,M,R⟩
 replace k:=kp R k
 clear R;have T:¬ 9223372036854775807 < 3+b.length:=by omega
 have U:¬ 9223372036854775807 < 3+b.length+a.length:=by omega
 have V:¬ 9223372036854775807 < 3+b.length+a.length+1:=by omega
 have W:¬ 9223372036854775807 < 3+b.length+a.length+1+l.length:=by omega
 go_wp2_with fail;obtain⟨Y,j⟩:∃ Y:Bs,Hid ([97,115,107] ++ b ++ a ++ [32] ++ l=Y):=⟨_,O rfl⟩;rw [show (⟨#[97,115,107]⟩:ByteArray) ++ aM (b) ++ aM (a) ++ (⟨#[32]⟩:ByteArray) ++ aM (l)=aM Y from by rw [← j.o] <;> (simp only [← ak];rfl)];have P:Y.length≤10000000:=by rw [← j.o];simp only [aaO,List.length_cons,List.length_nil];omega
 refine (Zw H M k (by omega)).mono ?_;clear H M;rintro e w3⟨Z,S,rfl,H,M,-⟩;go_wp2_with fail;go_ret2
 have x:=O (show qz ay q s=bH (([],3,[97,115,107]) :: (b,3,a) :: bN.on [32] c.pc) (aX ay (c.st)) ⟨46,[],((q:Nat):Int),c.ix,0⟩ from by
  unfold qz;simp only
  rw [if_neg t,if_neg f,if_neg f,h.o,d.o,i.o] <;> rfl)
 rw [x.o]
 refine⟨?_,_,_,_,H.o,M.o⟩
 show _=Ending.returned (.tuple #[.string (aM (aN (([],3,[97,115,107]) :: (b,3,a) :: bN.on [32] c.pc) ++ _)),.int .i64 (aX ay (c.st)).id])
 have y:aN (([],3,[97,115,107]) :: (b,3,a) :: bN.on [32] c.pc) ++ (if q=7 then [32] else [])=Y:=by
  rw [if_neg (by omega),List.append_nil,← j.o];simp only [aN];rw [r.o (by omega)];simp only [List.nil_append,List.append_nil,List.append_assoc,List.cons_append]
 rw [y];rfl
theorem akH {g:Nat}{ay:Bool}{iv Gq nv lv:Value}{w0 w:World}{s:bC}{GN xs:List NV}(H:Hid (dY g ay iv w s xs nv lv))(M:Hid (iL g w0 GN Gq w xs nv)){q:Nat}(d:1≤q)(c:q≤8)(i:s.ns.length≤600000):Calls Tryz.prog 118 #[.pointer (some ⟨g,0,none⟩),.int .i64 (q:Int)] w fun e f=>∃ a Y b eO j,e=.returned (.tuple #[.string (aM Y),.int .i64 a.ix])∧Hid (qz ay q s=a)∧Hid (aN a.pc ++ (if q=7 then [32] else [])=Y)∧Y.length≤20000∧Hid (dY g ay iv f a.st b eO j)∧Hid (iL g w0 GN Gq f b eO)∧Hid (Kp w xs f b):=by
 have k:Calls Tryz.prog 118 #[.pointer (some ⟨g,0,none⟩),.int .i64 (q:Int)] w (L_ g ay iv w xs nv q (qz ay q s)):=by
  by_cases h7:q=7
  ·exact SV d c h7 H i
  by_cases h8:q=8
  ·exact Xw d c h8 H i
  ·exact pa_one d c h7 h8 H i
 refine k.mono ?_;rintro e f ⟨rfl,b,eO,j,h,m⟩
 refine⟨_,_,b,eO,j,rfl,O rfl,O rfl,?_,O h,O (M.o.trans m),O fun w1 v ks L=>L.mw H.o m⟩
 have h1:(aN (qz ay q s).pc).length≤11000:=(QJ ay q c s).1;have h2:(if q=7 then [32] else ([]:Bs)).length≤1:=by split <;> simp
 rw [aaO];omega
end Go.Proofs.YthepmkjggfijoaaGreatDoor
