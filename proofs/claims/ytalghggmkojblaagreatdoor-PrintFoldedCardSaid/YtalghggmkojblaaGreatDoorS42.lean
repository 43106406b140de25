/-
  A part of the proof.
-/
import Derived.Test.YtalghggmkojblaaGreatDoorS41
set_option linter.all false
set_option maxRecDepth 100000
set_option maxHeartbeats 4000000
namespace Go.Proofs.YtalghggmkojblaaGreatDoor
open Go.RowKit Mist
attribute [local go_sem] ak aN aV aF aj
def Kp (w:World)(xs:List NV)(w':World)(xs':List NV):Prop:=∀ (w1:World) (v:Value) (ks:List Int),LG w1 w xs v ks→LG w1 w' xs' v ks
theorem kp {w b w1:World}{xs a:List NV}{v:Value}{ks:List Int}(R:Hid (Kp w xs b a))(L:Hid (LG w1 w xs v ks)):Hid (LG w1 b a v ks):=O (R.o _ _ _ L.o)
theorem aiN {I:eO}(h:I ≠ [])(g:Bs):ah (eO.on g I)=g ++ ah I:=by
 cases I with
 | nil=>exact absurd rfl h
 | cons x I =>
  obtain⟨a,k,t⟩:=x
  show (g ++ a) ++ (t ++ ah I)=g ++ (a ++ (t ++ ah I))
  rw [List.append_assoc]
theorem agN (n:Int):pQ n ≠ []:=by unfold pQ;split <;> simp
structure XCg (wild:Bool) (E:Gs→Gr) (N:Nat) (dv:Value):Prop where
 o:∀ (g:Nat) (iv:Value) (w:World) (s:Gs) (xs:List NV) (nv lv:Value),PL g wild iv w s xs nv lv→s.ns.length≤N →
  Calls Tryz.prog 34 #[.pointer (some ⟨g,0,none⟩),dv] w (mF g wild iv w xs nv (E s))
 bd:Bd E 100000 10000
 good:∀ s,EI (E s).pc
def LsC (wild:Bool)(E:Gs→Gr)(N:Nat)(dv:Value):Prop:=∀ (m:Nat),m≤4→∀ (g:Nat) (iv:Value) (w:World) (s:Gs) (xs:List NV) (nv lv:Value),PL g wild iv w s xs nv lv→s.ns.length≤N →
 Calls Tryz.prog 62 #[.pointer (some ⟨g,0,none⟩),.int .i64 (m:Int),dv] w (Rt g wild iv w xs nv (eP wild E m ⟨[],[],s⟩))
theorem KT {E:Gs→Gr}{L C b a:Nat}(h:Bd E L C)(h1:L≤b)(h2:C≤a):Bd E b a:=⟨fun s=>Nat.le_trans (h.text s) h1,fun s=>Nat.le_trans (h.nodes s) (Nat.add_le_add_left h2 _)⟩
theorem ael (wild:Bool){E:Gs→Gr}{L C:Nat}(h:Bd E L C)(m:Nat)(a:m≤4)(s:Gs):tl (eP wild E m ⟨[],[],s⟩).pc≤4 * (L+9)∧(eP wild E m ⟨[],[],s⟩).st.ns.length≤s.ns.length+4 * C∧(eP wild E m ⟨[],[],s⟩).ix.length=m:=by
 obtain⟨h1,h2,h3⟩:=wL wild h m ⟨[],[],s⟩;have b:m * (L+9)≤4 * (L+9):=Nat.mul_le_mul_right _ a;have c:m * C≤4 * C:=Nat.mul_le_mul_right _ a;rw [iX] at h1
 have h2:(eP wild E m ⟨[],[],s⟩).st.ns.length≤s.ns.length+m * C:=h2;have h3:(eP wild E m ⟨[],[],s⟩).ix.length=0+m:=h3;exact⟨by omega,by omega,by omega⟩
section
variable {g N:Nat} {wild:Bool} {iv Lj nv lv dv:Value} {w0 w:World} {s:Gs} {MJ xs:List NV} {E:Gs→Gr} (H:Hid (PL g wild iv w s xs nv lv)) (M:Hid (Gw g w0 MJ Lj w xs nv))
include H M
theorem BK:Calls Tryz.prog 26 #[.pointer (some ⟨g,0,none⟩)] w fun e a=>∃ b,e=.returned (.int .i64 s.nx)∧s.tl.ns.length=s.ns.length∧Hid (PL g wild iv a s.tl xs nv b)∧Hid (Gw g w0 MJ Lj a xs nv)∧Hid (Kp w xs a xs):=by
 refine (fD g wild iv _ s _ _ _ H.o).mono ?_;rintro e a ⟨rfl,b,h,m⟩;exact⟨b,rfl,rfl,O h,O (M.o.IZ m),O fun w1 v ks L=>L.mv H.o m⟩
theorem xD:Calls Tryz.prog 29 #[.pointer (some ⟨g,0,none⟩)] w fun e a=>∃ G b,e=.returned (.string (aG G))∧Hid (dQ wild s=G)∧G.length≤8∧(aM wild s).ns.length=s.ns.length∧Hid (PL g wild iv a (aM wild s) xs nv b)∧Hid (Gw g w0 MJ Lj a xs nv)∧Hid (Kp w xs a xs):=by
 refine (iC g wild iv _ s _ _ _ H.o).mono ?_;rintro e a ⟨rfl,b,h,m⟩;exact⟨_,b,rfl,O rfl,iR wild s,by rw [aO],O h,O (M.o.IZ m),O fun w1 v ks L=>L.mv H.o m⟩
theorem smH {t:Bs}(c:t.length≤10000000):Calls Tryz.prog 94 #[.pointer (some ⟨g,0,none⟩),.string (aG t)] w fun e b=>∃ S a,e=.returned (.string (aG S))∧Hid (xY wild t s=S)∧(kI wild s).ns.length=s.ns.length∧Hid (PL g wild iv b (kI wild s) xs nv a)∧Hid (Gw g w0 MJ Lj b xs nv):=by
 refine (TB g wild iv _ s _ _ _ H.o t (by omega)).mono ?_;rintro e b ⟨rfl,a,h,m⟩;exact⟨_,a,rfl,O rfl,by rw [eH],O h,O (M.o.IZ m)⟩
theorem Qu (X:Hid (XCg wild E N dv))(f:s.ns.length≤N):Calls Tryz.prog 34 #[.pointer (some ⟨g,0,none⟩),dv] w fun e c=>∃ a T b gY d,e=.returned (.tuple #[.string (aG T),.int .i64 a.ix])∧Hid (E s=a)∧Hid (ah a.pc=T)∧Hid (∀ u,ah (eO.on u a.pc)=u ++ T)∧T.length≤100000∧a.st.ns.length≤s.ns.length+10000∧Hid (PL g wild iv c a.st b gY d)∧Hid (Gw g w0 MJ Lj c b gY)∧Hid (Kp w xs c b):=by
 refine (X.o.o g iv _ s _ _ _ H.o f).mono ?_;rintro e c ⟨rfl,b,gY,d,h,m⟩;exact⟨_,_,b,gY,d,rfl,O rfl,O rfl,O (BM (X.o.good s)),X.o.bd.text s,X.o.bd.nodes s,O h,O (M.o.trans m),O fun w1 v ks L=>L.mw H.o m⟩
theorem lsH (X:Hid (XCg wild E N dv)){j:Nat}{d:Value}(q:Hid (LsC wild E j d)){m:Nat}(n:m≤4)(B:s.ns.length≤j):Calls Tryz.prog 62 #[.pointer (some ⟨g,0,none⟩),.int .i64 (m:Int),d] w fun e f=>∃ r T A c a gY i,e=.returned (.tuple #[.string (aG T),.slice A r.ix.length c])∧Hid (eP wild E m ⟨[],[],s⟩=r)∧Hid (ah r.pc=T)∧Hid (m ≠ 0→∀ u,ah (eO.on u r.pc)=u ++ T)∧Hid (m=0→r.pc=[])∧T.length≤500000∧r.st.ns.length≤s.ns.length+40000∧Hid (LG w0 f a (.slice A r.ix.length c) r.ix)∧Hid (PL g wild iv f r.st a gY i)∧Hid (Gw g w0 MJ Lj f a gY)∧Hid (Kp w xs f a):=by
 refine (q.o m n g iv _ s _ _ _ H.o B).mono ?_;rintro e f ⟨A,c,a,gY,i,rfl,l,h,k⟩;obtain⟨b1,b2,t⟩:=ael wild X.o.bd m n s;have y:=oz wild X.o.good m ⟨[],[],s⟩ (li0 _);exact⟨_,_,A,c,a,gY,i,rfl,O rfl,O rfl,O fun h0=>BM (y.2 fun h=>h0 (by rw [← t,h];rfl)),O fun h0=>by rw [h0];rfl,Nat.le_trans b1 (by omega),by omega,O ⟨l.row,fun b x=>Nat.le_trans M.o.size (l.lo b x),l.far⟩,O h,O (M.o.trans k),O fun w1 v ks L=>L.mw H.o k⟩
theorem ptH {K:Nat}{x:Bs}{n:Int}(ks:List Int)(d:ks.length≤1000)(f:s.ns.length≤1000000):Calls Tryz.prog 30 #[.pointer (some ⟨g,0,none⟩),.agg #[.int .u8 K,.string (aG x),.int .i64 n,.slice (some ⟨w.heap.size,0,none⟩) ks.length ks.length,.int .i64 0]] (w.alloc (.cells (intCells ks).toArray 3)) fun e b=>∃ a gY,e=.returned (.int .i64 s.id)∧Hid (PL g wild iv b (s.put ⟨K,x,n,ks,0⟩) a gY lv)∧Hid (Gw g w0 MJ Lj b a gY)∧Hid (Kp w xs b a):=by
 have c:=H.o.alloc (.cells (intCells ks).toArray 3);refine (iD g wild iv _ s _ _ _ c K x n _ ks (rP w ks d) f).mono ?_;rintro e b ⟨rfl,gY,h,m⟩;exact⟨_,gY,rfl,O h,O (M.o.gT.vW m (Jv M.o.size)),O fun w1 v i L=>(L.alloc _).put c h m (L.apart (amL _))⟩
theorem ptN {K:Nat}{x:Bs}{n:Int}(c:s.ns.length≤1000000):Calls Tryz.prog 30 #[.pointer (some ⟨g,0,none⟩),.agg #[.int .u8 K,.string (aG x),.int .i64 n,.slice none 0 0,.int .i64 0]] w fun e b=>∃ a gY,e=.returned (.int .i64 s.id)∧Hid (PL g wild iv b (s.put ⟨K,x,n,[],0⟩) a gY lv)∧Hid (Gw g w0 MJ Lj b a gY)∧Hid (Kp w xs b a):=by
 refine (iD g wild iv _ s _ _ _ H.o K x n _ [] (dw.none_ _) c).mono ?_;rintro e b ⟨rfl,gY,h,m⟩;exact⟨_,gY,rfl,O h,O (M.o.vW m pX),O fun w1 v d L=>L.put H.o h m (.inl rfl)⟩
theorem ptL {K:Nat}{x:Bs}{n:Int}{A:Option Addr}{c k:Nat}{ks:List Int}(L:Hid (LG w0 w xs (.slice A k c) ks))(f:s.ns.length≤1000000):Calls Tryz.prog 30 #[.pointer (some ⟨g,0,none⟩),.agg #[.int .u8 K,.string (aG x),.int .i64 n,.slice A k c,.int .i64 0]] w fun e d=>∃ a gY,e=.returned (.int .i64 s.id)∧Hid (PL g wild iv d (s.put ⟨K,x,n,ks,0⟩) a gY lv)∧Hid (Gw g w0 MJ Lj d a gY)∧Hid (∀ (w1:World) (v:Value) (js:List Int),(∀ b,v.ownBlock=some b→b < w0.heap.size)→LG w1 w xs v js→LG w1 d a v js):=by
 refine (iD g wild iv _ s _ _ _ H.o K x n _ ks L.o.row f).mono ?_;rintro e d ⟨rfl,gY,h,m⟩
 refine⟨_,gY,rfl,O h,O (M.o.vW m L.o.lo),O fun w1 v js hv Q=>Q.put H.o h m ?_⟩
 rcases h9:(Value.slice A k c).ownBlock with _ | b
 ·exact .inl rfl
 ·right
  intro e;have h1:=L.o.lo b h9;have h2:=hv b e.symm;omega
theorem itH {n:Int}(h0:-1000000≤n)(h1:n≤1000000):Calls Tryz.prog 33 #[.int .i64 n] w fun e a=>∃ U,e=.returned (.string (aG U))∧Hid (Go.Lib.itoa n=U)∧Hid (PL g wild iv a s xs nv lv)∧Hid (Gw g w0 MJ Lj a xs nv)∧Hid (Kp w xs a xs):=by
 refine (uD n h0 h1 g wild iv _ s _ _ _ H.o).mono ?_;rintro e a ⟨rfl,b⟩;exact⟨_,rfl,O rfl,O (H.o.below b),O (M.o.o_ b),O fun w1 v ks L=>L.below b⟩
end
theorem YZ (b:Nat)(w:World):Calls Tryz.prog 27 #[.int .i64 (b:Int)] w fun e a=>∃ x,e=.returned (.string (aG x))∧Hid (dD b=x)∧x.length≤4∧a=w:=by
 refine (jk b w).mono ?_;rintro e a ⟨rfl,rfl⟩;exact⟨_,rfl,O rfl,kF b,rfl⟩
theorem agX {wild:Bool}{d N:Nat}{E:Gs→Gr}(P:N≤900000)(hd:d≤100)(X:Hid (XCg wild E (N+50000) (.int .i64 (d:Int))))(b:Nat)(y:b < 75)(l:b % 2=0){g:Nat}{iv:Value}{w:World}{s:Gs}{xs:List NV}{nv lv:Value}(H:Hid (PL g wild iv w s xs nv lv))(Q:s.ns.length≤N) :
  Calls Tryz.prog 60 #[.pointer (some ⟨g,0,none⟩),.int .i64 (b:Int),.int .i64 ((d:Int)+1)] w (mF g wild iv w xs nv (Ir wild E b s)):=by
 have M:=O (Gw.refl (g:=g) (w:=w) (xs:=xs) (nv:=nv));have zd:IntKind.i64.wrap ((d:Int)+1 - 1)=(d:Int):=by rw [Int.add_sub_cancel];exact IntWalk.i64_in _ ⟨by omega,by omega⟩
 have F:(b:Int) < 75:=by omega
 have A:Int.tmod (b:Int) 2=0:=by rw [Int.tmod_eq_emod_of_nonneg (by omega)];omega
 have m:=O (show Ir wild E b s=Gx wild E b s by unfold Ir;rw [if_pos y]);have k:=O l;clear l;go_in
 go_wp2_with fail;refine (Qu H M X (by omega)).mono ?_;clear H M;rintro e w1⟨a,j,C,R,T,rfl,f,r,v,B,x,H,M,-⟩;go_wp2_with fail;refine (xD H M).mono ?_;clear H M;rintro e W⟨c,G,rfl,h,uV,U,H,M,-⟩;have L:¬ 9223372036854775807 < 3+c.length:=by omega
 have c1:¬ 9223372036854775807 < 3+c.length+j.length:=by omega
 go_wp2_with fail;obtain⟨Y,i⟩:∃ Y:Bs,Hid ([110,111,116] ++ c ++ j=Y):=⟨_,O rfl⟩;rw [show (⟨#[110,111,116]⟩:ByteArray) ++ aG (c) ++ aG (j)=aG Y from by rw [← i.o] <;> (simp only [← aj];rfl)];have S:Y.length≤10000000:=by rw [← i.o];simp only [amQ,List.length_cons,List.length_nil];omega
 refine (smH H M (t:=Y) (by omega)).mono ?_;clear H M;rintro e Z⟨J,K,rfl,u,V,H,M⟩;go_wp2_with fail;refine (ptH H M [a.ix] (by simp) (by omega)).mono ?_;clear H M;rintro e w4⟨D,I,rfl,H,M,-⟩;go_wp2_with fail;go_ret2
 have n:=O (show Gx wild E b s=d9 (mI wild (([],3,[110,111,116]) :: eO.on c a.pc) (aM wild (a.st))) (kI wild (aM wild (a.st))) ⟨5,[],0,[a.ix],0⟩ from by
  unfold Gx
  try simp only
  rw [f.o,h.o,if_pos k.o,if_pos k.o] <;> rfl)
 rw [m.o,n.o]
 refine⟨?_,_,_,_,H.o,M.o⟩
 show _=Ending.returned (.tuple #[.string (aG (ah (mI wild (([],3,[110,111,116]) :: eO.on c a.pc) (aM wild (a.st))))),.int .i64 (kI wild (aM wild (a.st))).id])
 have q:ah (([],3,[110,111,116]) :: eO.on c a.pc)=Y:=by
  simp only [ah,aX,gu];rw [v.o,← i.o] <;> simp only [List.nil_append,List.append_nil,List.append_assoc,List.cons_append]
 rw [qU,q,u.o];rfl
theorem agW {wild:Bool}{d N:Nat}{E:Gs→Gr}(P:N≤900000)(hd:d≤100)(X:Hid (XCg wild E (N+50000) (.int .i64 (d:Int))))(b:Nat)(y:b < 75)(l:¬ b % 2=0){g:Nat}{iv:Value}{w:World}{s:Gs}{xs:List NV}{nv lv:Value}(H:Hid (PL g wild iv w s xs nv lv))(Q:s.ns.length≤N) :
  Calls Tryz.prog 60 #[.pointer (some ⟨g,0,none⟩),.int .i64 (b:Int),.int .i64 ((d:Int)+1)] w (mF g wild iv w xs nv (Ir wild E b s)):=by
 have M:=O (Gw.refl (g:=g) (w:=w) (xs:=xs) (nv:=nv));have zd:IntKind.i64.wrap ((d:Int)+1 - 1)=(d:Int):=by rw [Int.add_sub_cancel];exact IntWalk.i64_in _ ⟨by omega,by omega⟩
 have F:(b:Int) < 75:=by omega
 have A:Int.tmod (b:Int) 2=1:=by rw [Int.tmod_eq_emod_of_nonneg (by omega)];omega
 have m:=O (show Ir wild E b s=Gx wild E b s by unfold Ir;rw [if_pos y]);have k:=O l;clear l;go_in
 go_wp2_with fail;refine (Qu H M X (by omega)).mono ?_;clear H M;rintro e w1⟨a,j,C,R,T,rfl,f,r,v,B,x,H,M,-⟩;go_wp2_with fail;refine (xD H M).mono ?_;clear H M;rintro e W⟨c,G,rfl,h,uV,U,H,M,-⟩;have L:¬ 9223372036854775807 < 1+c.length:=by omega
 have c1:¬ 9223372036854775807 < 1+c.length+j.length:=by omega
 go_wp2_with fail;obtain⟨Y,i⟩:∃ Y:Bs,Hid ([45] ++ c ++ j=Y):=⟨_,O rfl⟩;rw [show (⟨#[45]⟩:ByteArray) ++ aG (c) ++ aG (j)=aG Y from by rw [← i.o] <;> (simp only [← aj];rfl)];have S:Y.length≤10000000:=by rw [← i.o];simp only [amQ,List.length_cons,List.length_nil];omega
 refine (smH H M (t:=Y) (by omega)).mono ?_;clear H M;rintro e Z⟨J,K,rfl,u,V,H,M⟩;go_wp2_with fail;refine (ptH H M [a.ix] (by simp) (by omega)).mono ?_;clear H M;rintro e w4⟨D,I,rfl,H,M,-⟩;go_wp2_with fail;go_ret2
 have n:=O (show Gx wild E b s=d9 (mI wild (gu [45] :: eO.on c a.pc) (aM wild (a.st))) (kI wild (aM wild (a.st))) ⟨4,[],0,[a.ix],0⟩ from by
  unfold Gx
  try simp only
  rw [f.o,h.o,if_neg k.o,if_neg k.o] <;> rfl)
 rw [m.o,n.o]
 refine⟨?_,_,_,_,H.o,M.o⟩
 show _=Ending.returned (.tuple #[.string (aG (ah (mI wild (gu [45] :: eO.on c a.pc) (aM wild (a.st))))),.int .i64 (kI wild (aM wild (a.st))).id])
 have q:ah (gu [45] :: eO.on c a.pc)=Y:=by
  simp only [ah,aX,gu];rw [v.o,← i.o] <;> simp only [List.nil_append,List.append_nil,List.append_assoc,List.cons_append]
 rw [qU,q,u.o];rfl
theorem ae3 (r:Nat)(h:r < 13)(w:World):Sem.run Tryz.prog (Instr.index 146 (.agg #[.string ⟨#[43]⟩,.string ⟨#[45]⟩,.string ⟨#[42]⟩,.string ⟨#[47]⟩,.string ⟨#[37]⟩,.string ⟨#[61,61]⟩,.string ⟨#[33,61]⟩,.string ⟨#[60]⟩,.string ⟨#[60,61]⟩,.string ⟨#[62]⟩,.string ⟨#[62,61]⟩,.string ⟨#[97,110,100]⟩,.string ⟨#[111,114]⟩]) (.int .i64 r)) w=.ok (.string (aG (sg Pb r))) w:=by
 obtain rfl | rfl | rfl | rfl | rfl | rfl | rfl | rfl | rfl | rfl | rfl | rfl | rfl:r=0∨r=1∨r=2∨r=3∨r=4∨r=5∨r=6∨r=7∨r=8∨r=9∨r=10∨r=11∨r=12:=by omega
 all_goals kernel_rfl
theorem agU {wild:Bool}{d N:Nat}{E:Gs→Gr}(hN:N≤900000)(hd:d≤100)(X:Hid (XCg wild E (N+50000) (.int .i64 (d:Int))))(b:Nat)(S:¬ b < 75)(T:b < 150){g:Nat}{iv:Value}{w:World}{s:Gs}{xs:List NV}{nv lv:Value}(H:Hid (PL g wild iv w s xs nv lv))(hn:s.ns.length≤N) :
  Calls Tryz.prog 60 #[.pointer (some ⟨g,0,none⟩),.int .i64 (b:Int),.int .i64 ((d:Int)+1)] w (mF g wild iv w xs nv (Ir wild E b s)):=by
 have M:=O (Gw.refl (g:=g) (w:=w) (xs:=xs) (nv:=nv));have zd:IntKind.i64.wrap ((d:Int)+1 - 1)=(d:Int):=by rw [Int.add_sub_cancel];exact IntWalk.i64_in _ ⟨by omega,by omega⟩
 have z75:¬ (b:Int) < 75:=by omega
 obtain⟨k,C⟩:∃ k,k=b % 13:=⟨_,rfl⟩;have y:k < 13:=by omega
 have U:Int.tmod (b:Int) 13=(k:Int):=by rw [Int.tmod_eq_emod_of_nonneg (by omega),C];omega
 have F:=O (show Ir wild E b s=Nw wild E b s by unfold Ir;rw [if_neg S]);have r:=O C.symm;have uO:=ae3 k y;have D:=ab6 k;obtain⟨c,j⟩:∃ c,Hid (sg Pb k=c):=⟨_,O rfl⟩;rw [j.o] at uO D
 have zk0:(0:Int)≤(k:Int):=by omega
 have zk1:(k:Int) < 13:=by omega
 have zu:IntKind.u8.wrap (k:Int)=(k:Int):=IntWalk.u8_in _ (by omega);have zv:IntKind.u8.wrap (6+(k:Int))=((6+k:Nat):Int):=by rw [IntWalk.u8_in _ (by omega)];omega
 clear C;go_in
 go_wp2_with fail;refine (Qu H M X (by omega)).mono ?_;clear H M;rintro e w1⟨l,h,xs1,ji,oH,rfl,m,u,O1,W,Q,H,M,-⟩;go_wp2_with fail;refine (Qu H M X (by omega)).mono ?_;clear H M;rintro e w2⟨f,x,xs2,Cx,EW,rfl,n,J,P,Z,R,H,M,-⟩;go_wp2_with fail;refine (xD H M).mono ?_;clear H M;rintro e w3⟨a,XH,rfl,q,Za,q3,H,M,-⟩;have A:¬ 9223372036854775807 < h.length+a.length:=by omega
 have B:¬ 9223372036854775807 < h.length+a.length+c.length:=by omega
 go_wp2_with fail;refine (xD H M).mono ?_;clear H M;rintro e w4⟨i,Tc,rfl,K,Zb,q4,H,M,-⟩;clear A B;have c0:¬ 9223372036854775807 < h.length+a.length:=by omega
 have c1:¬ 9223372036854775807 < h.length+a.length+c.length:=by omega
 have c2:¬ 9223372036854775807 < h.length+a.length+c.length+i.length:=by omega
 have c3:¬ 9223372036854775807 < h.length+a.length+c.length+i.length+x.length:=by omega
 go_wp2_with fail;obtain⟨Y,v⟩:∃ Y:Bs,Hid (h ++ (a ++ (c ++ (i ++ x)))=Y):=⟨_,O rfl⟩;rw [show aG (h ++ (a ++ (c ++ (i ++ x))))=aG Y from by rw [← v.o] <;> (simp only [← aj];rfl)];have lY:Y.length≤10000000:=by rw [← v.o];simp only [amQ,List.length_cons,List.length_nil];omega
 refine (smH H M (t:=Y) (by omega)).mono ?_;clear H M;rintro e w5⟨S5,V,rfl,L,q5,H,M⟩;go_wp2_with fail;refine (ptH H M [l.ix,f.ix] (by simp) (by omega)).mono ?_;clear H M;rintro e w6⟨xs6,Tn,rfl,H,M,-⟩;go_wp2_with fail;go_ret2
 have G:=O (show Nw wild E b s=d9 (mI wild (l.pc ++ (a,opK k,c) :: eO.on i f.pc) (aM wild (aM wild (f.st)))) (kI wild (aM wild (aM wild (f.st)))) ⟨(6+k),[],0,[l.ix,f.ix],0⟩ from by
  unfold Nw
  try simp only
  rw [m.o,n.o,q.o,K.o,r.o,j.o] <;> rfl)
 rw [F.o,G.o]
 refine⟨?_,_,_,_,H.o,M.o⟩
 show _=Ending.returned (.tuple #[.string (aG (ah (mI wild (l.pc ++ (a,opK k,c) :: eO.on i f.pc) (aM wild (aM wild (f.st)))))),.int .i64 (kI wild (aM wild (aM wild (f.st)))).id])
 have I:ah (l.pc ++ (a,opK k,c) :: eO.on i f.pc)=Y:=by
  simp only [ah,aX,gu];rw [P.o,u.o,← v.o] <;> simp only [List.nil_append,List.append_nil,List.append_assoc,List.cons_append]
 rw [qU,I,L.o];rfl
