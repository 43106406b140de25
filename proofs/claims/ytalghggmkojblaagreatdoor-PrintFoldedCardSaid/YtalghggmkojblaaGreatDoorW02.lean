/-
  A part of the proof.
-/
import Derived.Test.YtalghggmkojblaaGreatDoorS51
import Derived.Test.YtalghggmkojblaaGreatDoorS53
set_option linter.all false
set_option maxRecDepth 100000
set_option maxHeartbeats 4000000
namespace Mist
theorem bR {T:Tr}(a:Ru T):∀ f i,i < f→i < T.nodes.length→Gd (aQ T f i)
 | 0,_,h,_=>absurd h (Nat.not_lt_zero _)
 | f+1,i,h,hi=>aiF (rtZ (a.right i hi)) (a.num i hi) fun j e=>by
  obtain⟨q,b,g⟩:=a.kid hi e;rw [amJ,b];exact⟨bR a f q (show q < f by omega) (by omega),Ny _ (show q < f by omega)⟩
end Mist
namespace Mist
open Go.RowKit
theorem fK {wide:Int}{s b:Bs}{f line a last:Nat}{e:Bool}(h:Lm wide s f [] e b line a last=true):(wide < (line:Int)→a=0)∧b=s:=by
 cases f with
 | zero=>cases h
 | succ f =>
  rw [Lm] at h
  simp only [amU,Bool.not_eq_true',Bool.and_eq_false_iff,decide_eq_true_eq,decide_eq_false_iff_not] at h
  exact⟨fun h1=>by rcases h.1 with h2 | h2 <;> omega,h.2⟩
theorem iZ {wide:Int}{s b r:Bs}{f line a last:Nat}{e:Bool}(h:Lm wide s f (10 :: r) e b line a last=true):(wide < (line:Int)→a=0)∧∃ g,Lm wide s g r true b 0 0 line=true:=by
 cases f with
 | zero=>cases h
 | succ f =>
  rw [Lm,if_pos rfl] at h
  simp only [amU,Bool.not_eq_true',Bool.and_eq_false_iff,decide_eq_true_eq,decide_eq_false_iff_not] at h
  exact⟨fun h1=>by rcases h.1 with h2 | h2 <;> omega,f,h.2⟩
theorem fQ {wide:Int}{s b r:Bs}{f a last:Nat}{c:UInt8}(e:¬ c=10)(h:Lm wide s f (c :: r) true b 0 a last=true):c=32∧r.head? = some 32∧¬ ((last+1+aZ Mk (r.drop 1):Nat):Int)≤wide∧∃ g,Lm wide s g (r.drop 1) true (b ++ [32]) 2 a last=true:=by
 cases f with
 | zero=>cases h
 | succ f =>
  rw [Lm,if_neg e,if_pos ⟨rfl,rfl⟩] at h
  simp only [amU,Bool.not_eq_true',decide_eq_true_eq,decide_eq_false_iff_not] at h
  exact⟨h.1.1.1,h.1.1.2,h.1.2,f,h.2⟩
theorem jo {wide:Int}{s b r:Bs}{f line a last:Nat}{e:Bool}{c:UInt8}(i:¬ c=10)(j:¬ (line=0∧e=true))(h:Lm wide s f (c :: r) e b line a last=true):∃ g,Lm wide s g r true (b ++ [c]) (line+1) (if c=32 then a+1 else a) last=true:=by
 cases f with
 | zero=>cases h
 | succ f =>
  rw [Lm,if_neg i,if_neg j] at h
  exact⟨f,h⟩
theorem fB {b:UInt8}{k:Nat}(a:k < 256)(h:¬ b=UInt8.ofNat k):¬ (b.toNat:Int)=(k:Int):=fun e=>h (UInt8.toNat_inj.1 (by rw [UInt8.toNat_ofNat'];omega))
theorem bS (b:UInt8):((b.toNat:Int) == 32)=decide (b=32)∧((b.toNat:Int) != 32)=!decide (b=32):=by
 by_cases h:b=32
 ·subst h;exact⟨rfl,rfl⟩
 ·have:=fB (k:=32) (by decide) h
  rw [amX h];exact⟨by simpa using this,by simpa using this⟩
theorem eX (b:UInt8):((b.toNat:Int) == 10)=decide (b=10)∧((b.toNat:Int) != 10)=!decide (b=10):=by
 by_cases h:b=10
 ·subst h;exact⟨rfl,rfl⟩
 ·have:=fB (k:=10) (by decide) h
  rw [amX h];exact⟨by simpa using this,by simpa using this⟩
theorem cK (p:UInt8→Bool):aZ p []=0:=rfl
theorem aI {p:UInt8→Bool}{c:UInt8}{r:Bs}(h:p c=false):aZ p (c :: r)=0:=by unfold aZ;rw [List.takeWhile_cons_of_neg (by simp [h])];rfl
theorem dz {p:UInt8→Bool}{c:UInt8}{r:Bs}(h:p c=true):aZ p (c :: r)=aZ p r+1:=by unfold aZ;rw [List.takeWhile_cons_of_pos h];rfl
theorem fJ {l:Bs}{i:Nat}{c:UInt8}(h:(l.drop i).head? = some c):i < l.length∧gt l i=c:=by
 rw [List.head?_drop] at h
 obtain⟨h1,h2⟩:=amG.1 h;exact⟨h1,by rw [aa1 l i h1];exact h2⟩
theorem bT {l:Bs}{i:Nat}(h:i < l.length):(l.take (i+1)).drop i=[gt l i]:=by rw [ae7 l i h,List.drop_append_of_le_length (by rw [List.length_take];omega),List.drop_of_length_le (by rw [List.length_take];omega)];rfl
theorem fI {l:Bs}{i:Nat}(h:i+1 < l.length):(l.take (i+2)).drop i=[gt l i,gt l (i+1)]:=by rw [ae7 l (i+1) h,List.drop_append_of_le_length (by rw [List.length_take];omega),bT (by omega)];rfl
theorem kr {i l K:Nat}(h:i≤2000∧l≤2000∧K≤2000):wrap64 ((i:Int)+1)=((i+1:Nat):Int)∧wrap64 ((i:Int)+2)=((i+2:Nat):Int)∧wrap64 ((l:Int)+1)=((l+1:Nat):Int)∧wrap64 ((K:Int)+1)=((K+1:Nat):Int):=⟨by unfold wrap64;omega,by unfold wrap64;omega,by unfold wrap64;omega,by unfold wrap64;omega⟩
end Mist
namespace Go.Proofs.YtalghggmkojblaaGreatDoor
open Go.RowKit Mist
theorem bZ {g:Nat}{w:World}{A B:Option Addr}{c d:Nat}{xs:List NV}{its:List Int}(h:RowsIn g w (.slice A xs.length c) (.slice B its.length d) xs its)(b:∀ x ∈ xs,x.1.kids.length≤1000000):uZ w A B xs its:=by
 refine⟨fun h0=>?_,BS h.row rfl⟩
 obtain⟨a,e,f⟩:=DI h.own h0 (fun x i=>⟨_,h.kids x i⟩) b;exact⟨a,0,e,f⟩
structure fE (W:World) (A B:Option Addr) (ns:List Nd) (its:List Int):Prop where
 ex:∃ xs,uZ W A B xs its∧aH xs=ns
theorem fE.below {W a:World}{A B:Option Addr}{ns:List Nd}{its:List Int}(h:fE W A B ns its)(b:Below W.heap.size W a):fE a A B ns its:=by
 obtain⟨e,h1,h2⟩:=h.ex;exact⟨e,h1.below b,h2⟩
section
variable {T:Tr} (F:dH T) {W:World} {A B:Option Addr} (c d:Nat) (hT:fE W A B T.nodes T.items)
include F hT
theorem bV:Calls Tryz.prog 7 #[.agg #[.slice A T.nodes.length c,.slice B T.items.length d]] W fun e r=>Below W.heap.size W r∧∃ g j l m,e=.returned (.agg #[.slice g T.nodes.length l,.slice j T.items.length m])∧fE r g j T.nodes T.items:=by
 obtain⟨t,h1,h2⟩:=hT.ex;have D:=F.few;have u:=F.itf;have y:t.length=T.nodes.length:=by rw [← dK,h2]
 have C:=F.wf
 have h:=aiR A B c d t T.items W h1 (by omega) (by omega) (fun x q k w=>by
  obtain⟨i,u,rfl⟩:=List.getElem_of_mem q
  have:=C i t[i].1 (by rw [← h2];exact AQ (amF u)) k w
  unfold pY kV;omega)
 rw [y] at h
 refine h.mono ?_;rintro e r ⟨v,G,E,f,rfl,b,a⟩;have n:f.length=T.nodes.length:=by rw [← dK,a,h2]
 obtain⟨g,l,rfl⟩:=dA b.own;obtain⟨j,m,rfl⟩:=dA b.row;rw [n]
 refine⟨v,g,j,l,m,rfl,⟨f,bZ b ?_,by rw [a,h2]⟩⟩
 intro x q;refine F.good.kids x.1 ?_;rw [← h2,← a];exact List.mem_map.2 ⟨x,q,rfl⟩
variable (hE:Env W) (hP:Pow W)
include hE hP
theorem fA (k:Int)(f:D9 k):Calls Tryz.prog 6 #[.agg #[.slice A T.nodes.length c,.slice B T.items.length d],.int .i64 k] W fun e b=>e=.returned (.tuple #[.string (aG (tC T k).1),.int .i64 (tC T k).2])∧Below W.heap.size W b:=by
 obtain⟨a,h1,h2⟩:=hT.ex;have g:a.length=T.nodes.length:=by rw [← dK,h2]
 have h:=Rq (c:=c) (d:=d) (show Rs W A B a T.items from ⟨h1,by rw [h2];exact F.check.2,hE,hP⟩) k f;rw [g,h2] at h
 exact h
theorem fu (k wide:Int)(f:D9 k)(i:D9 wide):Calls Tryz.prog 8 #[.agg #[.slice A T.nodes.length c,.slice B T.items.length d],.int .i64 k,.int .i64 wide] W fun e b=>e=.returned (.tuple #[.string (aG (z_ T k wide).1),.int .i64 (z_ T k wide).2])∧Below W.heap.size W b:=by
 obtain⟨a,h1,h2⟩:=hT.ex;have g:a.length=T.nodes.length:=by rw [← dK,h2]
 have h:=afL (c:=c) (d:=d) (show Rs W A B a T.items from ⟨h1,by rw [h2];exact F.check.2,hE,hP⟩) k wide f i;rw [g,h2] at h
 exact h
end
theorem aB {T:Tr}(F:dH T){k:Nat}(u:k < T.items.length){wide:Int}(h1:10≤wide)(h2:wide≤200) :
  ((tC T (k:Int)).2=5∧(tC T (k:Int)).1=[])∨∃ s f:Bs,tC T (k:Int)=(s,0)∧s.length≤2000∧f.length≤2 * s.length∧(z_ T (k:Int) wide=([],5)∧2000 < f.length∨z_ T (k:Int) wide=(f,0)∧f.length≤2000∧qR s f=(true,0)∧Lm wide s (f.length+1) f false [] 0 0 0=true):=by
 obtain⟨t,C⟩:=F.check;obtain⟨n,h8,h6,D⟩:=ab3 t C;obtain⟨i,x,j,E⟩:=D T.items[k] (List.getElem_mem u)
 have v:fC T (k:Int)=((i:Int),0):=by
  unfold fC;rw [if_neg (by simp [t]),if_neg (by omega),amS,amJ,amF u,x];rfl
 obtain⟨l,g⟩:∃ l,l=mK T (T.nodes.length+2) i:=⟨_,rfl⟩;have y:Gd l:=by rw [g];exact gU false (bR n _ i (by omega) j)
 have m:=Ny (T:=T) (f:=T.nodes.length+2) (i:=i) (by omega)
 have h0:∃ p r,l=p :: r∧p.blank=false:=by
  rw [g];unfold mK
  cases G:aQ T (T.nodes.length+2) i with
  | nil=>exact absurd G m
  | cons p r=>exact⟨_,_,rfl,rfl⟩
 obtain⟨a,b,c⟩:=agk wide y h0
 have q:tC T (k:Int)=((mO (dX l) l.length).1,(((mO (dX l) l.length).2:Nat):Int)):=by
  unfold tC;rw [v,if_neg (by simp)];simp only [amS];rw [← g]
 by_cases w:2000 < (dX l).length∨800 < l.length
 ·left
  rw [q];unfold mO;rw [if_pos w];exact⟨rfl,rfl⟩
 ·right
  have e:tC T (k:Int)=(dX l,0):=by rw [q];unfold mO;rw [if_neg w];rfl
  refine⟨dX l,(fH wide (eZ l)).2.2,e,by omega,b,?_⟩
  have hF:z_ T (k:Int) wide=if 2000 < (fH wide (eZ l)).2.2.length then ([],5) else ((fH wide (eZ l)).2.2,0):=by
   unfold z_;rw [if_neg (by rw [e];simp),if_neg (by omega),v];simp only [amS];rw [← g]
  by_cases h:2000 < (fH wide (eZ l)).2.2.length
  ·left;exact⟨by rw [hF,if_pos h],h⟩
  ·right;exact⟨by rw [hF,if_neg h],by omega,c (by omega) (by omega) (by omega),a⟩
end Go.Proofs.YtalghggmkojblaaGreatDoor
namespace Go.Proofs.YtalghggmkojblaaGreatDoor
open Go.RowKit Mist
attribute [local go_sem] ak aN aV aF aj
theorem aD (vF:Bs)(lv:Value)(a b:Nat)(w:World)(hE:Env w)(hP:Pow w)(hS:nY w w.heap.size lv vF)(ha:a < 256)(hb:b < 256) :
  Calls Tryz.prog 3 #[lv,.agg #[.int .u8 a,.int .u8 b]] w fun e w'=>e=.returned (.bool true)∧Below w.heap.size w w':=by
 have HE:=O hE;clear hE;have HP:=O hP;clear hP;have a0:=O (bY.new w 24 #[.int .u8 a,.int .u8 b]);have yh:=O (aU (Below.refl w.heap.size w) (amL _) (o:=.cells #[.int .u8 a,.int .u8 b] 24));have Y4:=O (ahZ false vF lv _ (HP.o.on yh.o) ((hS.below yh.o (amL _)).up yh.o.size));have HK:=O fun W (U:Below w.heap.size w W)=>ai8 (HE.o.below U) (HP.o.on U)
 clear hS;go_in
 go_wp2_with fail;refine Y4.o.mono ?_;rintro e w1⟨a4,A,B,c,d,xs,rfl,b2,hT⟩;have CJ:=O (yh.o.trans (a4.mono yh.o.size));have a6:=O (a0.o.below a4 a0.o.lt);clear a4 a0 yh Y4;have a2:=O hT;have Y5:=O b2;clear hT b2
 cases a5:Af (qh false vF)
 case false =>
  clear a5;have Ku:=O (aU CJ.o CJ.o.size (o:=.cells #[.slice A xs.length c,.slice B (grown false vF).ix.length d] 28));go_wp2_with fail;refine (HK.o _ Ku.o).mono ?_;rintro e w2⟨rfl,u⟩;have t:=O (Ku.o.trans (u.mono Ku.o.size));clear u;go_wp2_with fail;go_ret;exact⟨by first | rfl | simp,t.o⟩
 have S:=aiS false vF a5;clear a5;obtain⟨T,uo⟩:∃ T,T=qj false vF:=⟨_,rfl⟩;rw [← uo] at S
 have Q:aH xs=T.nodes:=by rw [uo];exact Y5.o
 have nJ:(grown false vF).ix=T.items:=by rw [uo];rfl
 have hl:xs.length=T.nodes.length:=by rw [← dK,Q]
 rw [nJ] at a2 ⊢
 have ny:uZ w1 A B xs T.items:=a2.o fun x hx=>S.good.kids x.1 (by rw [← Q];exact List.mem_map.2 ⟨x,hx,rfl⟩)
 rw [hl];have lQ:=O S;have lT:=S.itf;have ni:=O (⟨⟨xs,ny,Q⟩⟩:fE w1 A B T.nodes T.items);clear uo nJ Y5 a2 Q hl ny;have HO:=O fun (W:World) (A B:Option Addr) (c d:Nat) (h:fE W A B T.nodes T.items)=>bV S (A:=A) (B:=B) c d h
 have HI:=O fun (W:World) (A B:Option Addr) (c d:Nat) (k:Int) (hk:D9 k) (h:fE W A B T.nodes T.items) (U:Below w.heap.size w W)=>fA S (A:=A) (B:=B) c d h (HE.o.below U) (HP.o.on U) k hk
 have HF:=O fun (W:World) (A B:Option Addr) (c d:Nat) (k v:Int) (hk:D9 k) (hv:D9 v) (h:fE W A B T.nodes T.items) (U:Below w.heap.size w W)=>fu S (A:=A) (B:=B) c d h (HE.o.below U) (HP.o.on U) k v hk hv
 clear S;obtain⟨n,hn⟩:∃ n,n=T.nodes.length:=⟨_,rfl⟩;obtain⟨m,V⟩:∃ m,m=T.items.length:=⟨_,rfl⟩;have HM:=O V;rw [← hn,← V] at HO HI HF ⊢
 rw [← V] at lT
 clear hn V;have Y:=O (a6.o.alloc (.cells #[.slice A n c,.slice B m d] 28));have L:=O (bY.new w1 28 #[.slice A n c,.slice B m d]);have t:=O (aU CJ.o CJ.o.size (o:=.cells #[.slice A n c,.slice B m d] 28));have a7:=O (ni.o.below (aU (Below.refl w1.heap.size w1) (amL _) (o:=.cells #[.slice A n c,.slice B m d] 28)));clear a6 CJ ni;have t0:=L.o.cell 0;have t1:=L.o.cell 1;by_cases V:0 < m
 case neg =>
  obtain rfl:m=0:=by omega
  clear HM HI HF HO V lT;go_wp2_with fail;refine (HK.o _ t.o).mono ?_;rintro e w2⟨rfl,u⟩;have X:=O (t.o.trans (u.mono t.o.size));clear u;go_wp2_with fail;go_ret;exact⟨by first | rfl | simp,X.o⟩
 have b8:((m:Int) == 0)=false:=by simp;omega
 have b9:¬ (m:Int)=0:=by omega
 have x0:=Y.o.cell 0;have x1:=Y.o.cell 1;have r1:Int.tmod (a:Int) (m:Int)=((a % m:Nat):Int):=by rw [Int.tmod_eq_emod_of_nonneg (by omega),Int.natCast_emod]
 have r2:Int.tmod (b:Int) 60=((b % 60:Nat):Int):=by rw [Int.tmod_eq_emod_of_nonneg (by omega)];omega
 have C:b % 60 < 60:=Nat.mod_lt _ (by decide);have gK:=Nat.mod_lt a V;obtain⟨am,nQ⟩:∃ am,am=a % m:=⟨_,rfl⟩;obtain⟨bm,og⟩:∃ bm,bm=b % 60:=⟨_,rfl⟩;rw [← nQ] at r1 gK
 rw [← og] at r2 C
 have r3:wrap64 (10+(bm:Int))=((10+bm:Nat):Int):=by unfold wrap64;omega
 have o9:am≤1000000:=by omega
 have jG:=O (aB lQ.o (k:=am) (by rw [← HM.o];exact gK) (wide:=10+(bm:Int)) (by omega) (by omega));have j4:=O (show D9 (am:Int) from ⟨by omega,by omega⟩);have l5:=O (show D9 (10+(bm:Int)) from ⟨by omega,by omega⟩);clear nQ og V lQ HM gK;go_wp2_with fail;go_quiet (fail)
 go_wp2_with fail;have a1:=O (mJ t.o nq);have jW:=O (a7.o.below (mJ (Below.refl _ _) nq));have Z:=O (L.o.below (mJ (Below.refl _ _) nq) L.o.lt);clear t0 t1 x0 x1 r1 r2 r3 b8 b9 L Y t a7;refine (HO.o _ _ _ _ _ jW.o).mono ?_;rintro e w2⟨u,An,Bn,cn,dn,rfl,N⟩;have kD:=O (jW.o.below u);have J:=O N;have t:=O (a1.o.trans (u.mono a1.o.size));have L:=O (Z.o.below u Z.o.lt);clear u Z a1 jW N;have t0:=L.o.cell 0;have t1:=L.o.cell 1;go_wp2_with fail;refine (HI.o _ _ _ _ _ _ j4.o J.o t.o).mono ?_;rintro e w3⟨rfl,R⟩;have X:=O (t.o.trans (R.mono t.o.size));have a3:=O (L.o.below R L.o.lt);have kC:=O (kD.o.below R);clear R L t HI t0 t1 kD J;obtain⟨I,hI⟩:∃ I,I=tC T (am:Int):=⟨_,rfl⟩;rw [← hI] at jG ⊢
 clear hI;rcases jG.o with ⟨h1,h2⟩ | ⟨s,F,rfl,hs,b5,b0⟩
 ·obtain⟨i1,i2⟩:=I;obtain rfl:i2=5:=h1;clear h2 jG;go_wp2_with fail;refine (HK.o _ X.o).mono ?_;rintro e w4⟨rfl,M⟩;have EJ:=O (X.o.trans (M.mono X.o.size));clear M;go_wp2_with fail;go_ret;exact⟨by first | rfl | simp,EJ.o⟩
 clear jG;have gq:=O b0;clear b0;have t0:=a3.o.cell 0;have t1:=a3.o.cell 1;go_wp2_with fail;refine (HO.o _ _ _ _ _ kC.o).mono ?_;rintro e w4⟨M,An,Bn,cn,dn,rfl,N⟩;have J:=O N;have EJ:=O (X.o.trans (M.mono X.o.size));clear M a3 X HO t0 t1 N kC;go_wp2_with fail;refine (HF.o _ _ _ _ _ _ _ j4.o l5.o J.o EJ.o).mono ?_;rintro e w5⟨rfl,a9⟩;have qZ:=O (EJ.o.trans (a9.mono EJ.o.size));clear a9 EJ HF J j4 l5;rcases gq.o with ⟨hj,c0⟩ | ⟨hj,hf,b3,jv⟩
 ·rw [hj];clear gq;have c2:(1000:Int) < (s.length:Int):=by omega
  go_wp2_with fail;refine (HK.o _ qZ.o).mono ?_;rintro e w6⟨rfl,C⟩;have sI:=O (qZ.o.trans (C.mono qZ.o.size));clear C;go_wp2_with fail;go_ret;exact⟨by first | rfl | simp,sI.o⟩
 rw [hj];have j6:=O jv;have mG:=O b3;clear gq hj jv b3;go_wp2_with fail;refine (ai0 s F w5 (HE.o.below qZ.o) (by omega) (by omega)).mono ?_;rintro e w6⟨rfl,C⟩;rw [mG.o];have sI:=O (qZ.o.trans (C.mono qZ.o.size));clear C qZ mG b5;obtain⟨r,D⟩:∃ r:Int,r=10+(bm:Int):=⟨_,rfl⟩;rw [← D] at j6 ⊢
 have c9:0≤r∧r≤1000:=by omega
 clear D;go_wp2_with fail;go_loopw [16,17,18,19,20,21] (fun fl ln bl la iv _ wr=>∃ (i line q last f:Nat) (j:Bs),i≤F.length+1∧line≤i∧q≤i∧last≤i∧j.length≤i∧fl=.string (aG j)∧ln=.int .i64 line∧bl=.int .i64 q∧la=.int .i64 last∧iv=.int .i64 i∧wr=w6∧Hid ((i≤F.length→Lm r s f (F.drop i) (decide (0 < i)) j line q last=true)∧(i=F.length+1→j=s))) (fun _ _ _ _ iv _ _=>F.length+1 - (intOf iv).toNat)
 case atStart=>exact⟨0,0,0,0,_,[],by omega,by omega,by omega,by omega,by simp,rfl,rfl,rfl,rfl,rfl,rfl,O ⟨fun _=>j6.o,fun h=>by omega⟩⟩
 case round =>
  clear j6;obtain⟨wo,rfl⟩:∃ wo:World,wo=wr:=⟨_,rfl⟩;obtain⟨i,line,q,last,f,j,hi,hl,hb,c8,c4,rfl,rfl,rfl,rfl,rfl,rfl,HX⟩:=hrel;by_cases b7:i≤F.length
  case neg =>
   obtain rfl:j=s:=HX.o.2 (by omega);have i1:¬ (i:Int)≤(F.length:Int):=by omega
   clear HX b7;go_wp2_with fail;refine (HK.o _ sI.o).mono ?_;rintro e w7⟨rfl,uq⟩;go_wp2_with fail;go_ret;exact⟨by first | rfl | simp,sI.o.trans (uq.mono sI.o.size)⟩
  have i1:(i:Int)≤(F.length:Int):=by omega
  have HB:=O (kr (i:=i) (l:=line) (K:=q) (by omega));have z0:(0:Int)≤(i:Int):=by omega
  rcases Nat.lt_or_ge i F.length with b1 | c5
  case inr =>
   obtain rfl:i=F.length:=by omega
   have y:=HX.o.1 (by omega);rw [List.drop_length] at y
   obtain⟨h1,rfl⟩:=fK y;clear y HX;by_cases D:r < (line:Int)
   ·obtain rfl:=h1 D;clear h1;go_wp2_with fail;exact⟨⟨F.length+1,0,0,line,0,j,by omega,by omega,by omega,by omega,by omega,rfl,rfl,rfl,rfl,by go_num,by first | rfl | trivial,O ⟨fun h=>by omega,fun _=>rfl⟩⟩,by first|(simp [intOf];done)|(simp [intOf];omega)⟩
   ·clear h1;go_wp2_with fail;exact⟨⟨F.length+1,0,0,line,0,j,by omega,by omega,by omega,by omega,by omega,rfl,rfl,rfl,rfl,by go_num,by first | rfl | trivial,O ⟨fun h=>by omega,fun _=>rfl⟩⟩,by first|(simp [intOf];done)|(simp [intOf];omega)⟩
  have i2:(i:Int) < (F.length:Int):=by omega
  have i3:((i:Int) == (F.length:Int))=false:=by simp;omega
  have i4:¬ (i:Int)=(F.length:Int):=by omega
  have y:=HX.o.1 (by omega);rw [zV F i b1] at y
  clear HX;have C3:=bS (gt F i);have C1:=eX (gt F i);have c3:=C3.1;have c1:=C1.1;clear C1 C3;have q1:=bT b1;by_cases h10:gt F i=10
  ·rw [h10] at y
   obtain⟨h1,g,y⟩:=iZ y;have H:=O (show Lm r s g (F.drop (i+1)) (decide (0 < i+1)) j 0 0 line=true by rw [amW (by omega)];exact y);clear y c3 q1;rw [amW h10] at c1
   clear h10;by_cases D:r < (line:Int)
   ·obtain rfl:=h1 D;clear h1;go_wp2_with fail;exact⟨⟨i+1,0,0,line,g,j,by omega,by omega,by omega,by omega,by omega,rfl,rfl,rfl,rfl,by go_num,by first | rfl | trivial,O ⟨fun _=>H.o,fun h=>by omega⟩⟩,by first|(simp [intOf];done)|(simp [intOf];omega)⟩
   ·clear h1;go_wp2_with fail;exact⟨⟨i+1,0,0,line,g,j,by omega,by omega,by omega,by omega,by omega,rfl,rfl,rfl,rfl,by go_num,by first | rfl | trivial,O ⟨fun _=>H.o,fun h=>by omega⟩⟩,by first|(simp [intOf];done)|(simp [intOf];omega)⟩
  rw [amX h10] at c1
  by_cases h2:line=0∧0 < i
  ·obtain⟨rfl,b6⟩:=h2;rw [amW b6] at y
   obtain⟨h3,h4,h5,g,y⟩:=fQ h10 y;obtain⟨h6,h7⟩:=fJ h4;rw [List.drop_drop] at y h5
   obtain⟨G,hG⟩:∃ G,G=aZ Mk (F.drop (i+2)):=⟨_,rfl⟩;rw [show i+1+1=i+2 from rfl] at y h5
   rw [← hG] at h5
   have HG:=O hG;have H:=O (show Lm r s g (F.drop (i+2)) (decide (0 < i+2)) (j ++ [32]) 2 q last=true by rw [amW (by omega)];exact y);have q2:=fI h6;rw [h3,h7] at q2
   have i5:(0:Int) < (i:Int):=by omega
   have i6:¬ (F.length:Int) < (i:Int)+2:=by omega
   have i7:¬ 9223372036854775807 < j.length+1:=by omega
   clear hG y h3 h4 h7 c3 q1;go_wp2_with fail;go_loopw [21] (fun kv wx=>∃ K:Nat,kv=.int .i64 K∧i+2≤K∧K≤F.length∧Hid (K+aZ Mk (F.drop K)=i+2+G)∧wx=wo) (fun kv _=>F.length - (intOf kv).toNat)
   case atStart=>exact⟨i+2,by go_num,by omega,by omega,O (by rw [← HG.o]),rfl⟩
   case round =>
    clear HG;obtain⟨K,rfl,c6,c7,HW,rfl⟩:=hrel;have k0:(0:Int)≤(K:Int):=by omega
    rcases (show (K < F.length∧gt F K ≠ 32∧gt F K ≠ 10)∨(K=i+2+G∧(K=F.length∨K < F.length∧(gt F K=32∨gt F K ≠ 32∧gt F K=10))) from by
     rcases Nat.lt_or_ge K F.length with h | h
     ·have D:=HW.o;rw [zV F K h] at D
      by_cases E:gt F K=32
      ·rw [aI (by rw [E];rfl)] at D
       exact .inr ⟨D,.inr ⟨h,.inl E⟩⟩
      by_cases P:gt F K=10
      ·rw [aI (by rw [P];rfl)] at D
       exact .inr ⟨D,.inr ⟨h,.inr ⟨E,P⟩⟩⟩
      exact .inl ⟨h,E,P⟩
     ·have D:=HW.o;rw [List.drop_of_length_le h,cK] at D
      exact .inr ⟨D,.inl (by omega)⟩) with ⟨hK,E,P⟩ | ⟨o8,hc⟩
    ·have a8:=HW.o;rw [zV F K hK,dz (by simp [Mk,E,P])] at a8
     have b4:=O (show K+1+aZ Mk (F.drop (K+1))=i+2+G by omega);have k1:(K:Int) < (F.length:Int):=by omega
     have m1:=(bS (gt F K)).2;have m2:=(eX (gt F K)).2;rw [amX E] at m1
     rw [amX P] at m2
     clear a8 E P HW H;go_wp2_with fail;exact⟨⟨K+1,by go_num,by omega,by omega,b4,by first | rfl | trivial⟩,by first|(simp [intOf];done)|(simp [intOf];omega)⟩
    clear HW;have j1:¬ (last:Int)+1+(K:Int) - (i:Int) - 2≤r:=by omega
    clear h5 o8;rcases hc with rfl | ⟨hK,E | ⟨E,P⟩⟩
    ·go_wp2_with fail;exact⟨⟨i+2,2,q,last,g,j ++ [32],by omega,by omega,by omega,by omega,by simp;omega,by first | rfl | rw [show ({ data:=#[32] }:ByteArray)=aG [32] from rfl,aj],rfl,rfl,rfl,by go_num,by first | rfl | trivial,O ⟨fun _=>H.o,fun h=>by omega⟩⟩,by first|(simp [intOf];done)|(simp [intOf];omega)⟩
    ·have k1:(K:Int) < (F.length:Int):=by omega
     have m1:=(bS (gt F K)).2;rw [amW E] at m1
     clear E;go_wp2_with fail;exact⟨⟨i+2,2,q,last,g,j ++ [32],by omega,by omega,by omega,by omega,by simp;omega,by first | rfl | rw [show ({ data:=#[32] }:ByteArray)=aG [32] from rfl,aj],rfl,rfl,rfl,by go_num,by first | rfl | trivial,O ⟨fun _=>H.o,fun h=>by omega⟩⟩,by first|(simp [intOf];done)|(simp [intOf];omega)⟩
    ·have k1:(K:Int) < (F.length:Int):=by omega
     have m1:=(bS (gt F K)).2;have m2:=(eX (gt F K)).2;rw [amX E] at m1
     rw [amW P] at m2
     clear E P;go_wp2_with fail;exact⟨⟨i+2,2,q,last,g,j ++ [32],by omega,by omega,by omega,by omega,by simp;omega,by first | rfl | rw [show ({ data:=#[32] }:ByteArray)=aG [32] from rfl,aj],rfl,rfl,rfl,by go_num,by first | rfl | trivial,O ⟨fun _=>H.o,fun h=>by omega⟩⟩,by first|(simp [intOf];done)|(simp [intOf];omega)⟩
  obtain⟨g,y⟩:=jo h10 (fun h=>h2 ⟨h.1,of_decide_eq_true h.2⟩) y;have H:=O (show Lm r s g (F.drop (i+1)) (decide (0 < i+1)) (j ++ [gt F i]) (line+1) (if gt F i=32 then q+1 else q) last=true by rw [amW (by omega)];exact y);clear y h10;have q2:¬ 9223372036854775807 < j.length+1:=by omega
  rcases (show line ≠ 0∨line=0∧¬ 0 < i by
   by_cases h:line=0
   ·exact .inr ⟨h,fun h3=>h2 ⟨h,h3⟩⟩
   ·exact .inl h) with d1 | ⟨rfl,d1⟩
  focus
   have d3:((line:Int) == 0)=false:=by simpa using d1
   have d4:¬ (line:Int)=0:=by omega
   clear d1
  rotate_left
  focus
   have d3:decide ((0:Int) < (i:Int))=false:=amX (by omega);have d4:¬ (0:Int) < (i:Int):=by omega
   clear d1
  all_goals
   clear h2;by_cases h32:gt F i=32
   ·rw [amW h32] at c3
    rw [if_pos h32] at H
    clear h32;go_wp2_with fail;exact⟨⟨i+1,_,_,last,g,j ++ [gt F i],by omega,by omega,by omega,by omega,by simp;omega,by first | rfl | rw [aj],by go_num,by go_num,rfl,by go_num,by first | rfl | trivial,O ⟨fun _=>H.o,fun h=>by omega⟩⟩,by first|(simp [intOf];done)|(simp [intOf];omega)⟩
   ·rw [amX h32] at c3
    rw [if_neg h32] at H
    clear h32;go_wp2_with fail;exact⟨⟨i+1,_,_,last,g,j ++ [gt F i],by omega,by omega,by omega,by omega,by simp;omega,by first | rfl | rw [aj],by go_num,rfl,rfl,by go_num,by first | rfl | trivial,O ⟨fun _=>H.o,fun h=>by omega⟩⟩,by first|(simp [intOf];done)|(simp [intOf];omega)⟩
