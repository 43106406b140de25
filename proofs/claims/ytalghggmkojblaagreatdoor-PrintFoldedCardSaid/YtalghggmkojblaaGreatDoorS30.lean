/-
  A part of the proof.
-/
import Derived.Test.YtalghggmkojblaaGreatDoorS29
set_option linter.all false
set_option maxRecDepth 100000
set_option maxHeartbeats 4000000
namespace Go.Proofs.YtalghggmkojblaaGreatDoor
section
open Go.RowKit Mist
structure jI (w:World) (A:Option Addr) (ks:List Nat):Prop where
 ex:0 < ks.length→∃ b o,A=some ⟨b,o,none⟩∧b < w.heap.size∧∀ (j:Nat) k,ks[j]? = some k→w.cell? ⟨b,o+j,none⟩=some (.int .u8 k)
theorem jI.below {w d:World}{A:Option Addr}{ks:List Nat}(h:jI w A ks)(a:Below w.heap.size w d):jI d A ks :=
 ⟨fun h0=>by
  obtain⟨b,o,e,c,f⟩:=h.ex h0;exact⟨b,o,e,amY c a.size,fun j k g=>(a.cell (by exact c)).trans (f j k g)⟩⟩
theorem jI.take {w:World}{A:Option Addr}{ks:List Nat}(h:jI w A ks)(n:Nat):jI w A (ks.take n) :=
 ⟨fun h0=>by
  obtain⟨b,o,e,d,c⟩:=h.ex (by rw [List.length_take] at h0;omega)
  refine⟨b,o,e,d,fun j k a=>c j k ?_⟩
  rw [List.getElem?_take] at a
  split at a
  ·exact a
  ·cases a⟩
theorem jI.drop {w:World}{A:Option Addr}{ks:List Nat}(h:jI w A ks){n c:Nat}(f:ks.length≤c):jI w (if c=n then A else A.map (·.add n)) (ks.drop n) :=
 ⟨fun h0=>by
  rw [List.length_drop] at h0
  obtain⟨b,o,rfl,e,a⟩:=h.ex (by omega);rw [if_neg (by omega)]
  refine⟨b,o+n,by rw [Option.map_some,vD],e,fun j k d=>?_⟩
  rw [Nat.add_assoc];exact a (n+j) k (by rwa [List.getElem?_drop] at d)⟩
theorem UN (p:Pd)(k:Nat)(r:Bool)(d:p.is k=r)(w:World)(a b:Value)(g:Nat)(T:TypeId)(c:bY w g T #[a,b,J4 p]):Calls Tryz.prog 152 #[.int .u8 k,.pointer (some ⟨g,0,none⟩)] w fun e f=>e=.returned (.bool (!r))∧w=f:=by
 cases p with
 | expr=>exact Wt k r d w a b g T c
 | typ=>exact aat k r d w a b g T c
 | param=>exact Rx k r d w a b g T c
 | put=>exact aas k r d w a b g T c
 | num=>exact aar k r d w a b g T c
theorem OB (p:Pd)(ks:List Nat)(A:Option Addr)(c:Nat)(w:World)(x:jI w A ks)(H:ks.length≤1000000)(a d:Value)(g:Nat)(T:TypeId)(B:bY w g T #[a,d,J4 p]) :
  Calls Tryz.prog 176 #[.slice A ks.length c,.func (.func 152) #[] #[.pointer (some ⟨g,0,none⟩)]] w fun e I=>(∃ i:Int,e=.returned (.int .i64 i)∧decide (0≤i)=!(ks.all p.is))∧w=I:=by
 obtain⟨n,m⟩:∃ n,n=ks.length:=⟨_,rfl⟩;rw [← m] at H ⊢
 have j:=O m;clear m;have D:=O x;clear x;have t:=O B;clear B;go_in
 go_wp2_with fail;go_loop [8] (fun i=>∃ k:Nat,k≤n∧i=.int .i64 k∧Hid ((ks.take k).all p.is=true)) (fun i=>n - (intOf i).toNat)
 case atStart=>exact⟨0,amN _,rfl,O rfl⟩
 case round =>
  obtain⟨k,K,rfl,v⟩:=hrel;by_cases l:k < n
  ·obtain⟨b,o,rfl,F,y⟩:=D.o.ex (by rw [← j.o];omega);obtain⟨q,r⟩:∃ q,ks[k]? = some q:=⟨_,amF (by rw [← j.o];exact l)⟩;have J:=y k q r;have u:=O r;clear y r;have L:(0:Int)≤(k:Int):=by omega
   have M:(k:Int) < (n:Int):=by omega
   have E:=O (show ks.take (k+1)=ks.take k ++ [q] by rw [List.take_add_one,u.o];rfl)
   cases h:p.is q
   ·have f:=O h;clear h;go_wp2_with fail;refine (UN p q false f.o _ a d g T t.o).mono ?_;rintro e w1⟨rfl,rfl⟩;go_wp2_with fail;go_ret
    refine⟨⟨k,rfl,?_⟩,rfl⟩
    have G:ks.all p.is=false:=by
     rw [List.all_eq_false];exact⟨q,amO u.o,by rw [f.o];simp⟩
    rw [G];simp
   ·have f:=O h;clear h;go_wp2_with fail;refine (UN p q true f.o _ a d g T t.o).mono ?_;rintro e w1⟨rfl,rfl⟩;go_wp2_with fail;go_round
    case rel=>exact⟨k+1,by omega,by go_num,O (by rw [E.o,List.all_append,v.o];simp [f.o])⟩
    case measure=>simp [intOf];omega
  ·have C:=O (show ks.all p.is=true by have:=v.o;rwa [amP (by rw [← j.o];omega)] at this);go_wp2_with fail;go_ret;exact⟨⟨-1,rfl,by rw [C.o];rfl⟩,rfl⟩
theorem FR (p:Pd)(ks:List Nat)(A:Option Addr)(c:Nat)(w:World)(d:jI w A ks)(l:ks.length≤1000000)(a b:Value)(g:Nat)(T:TypeId)(f:bY w g T #[a,b,J4 p])(r:Bool)(h:ks.all p.is=r) :
  Calls Tryz.prog 151 #[.slice A ks.length c,.func (.func 152) #[] #[.pointer (some ⟨g,0,none⟩)]] w fun e m=>e=.returned (.bool (!r))∧w=m:=by
 have k:=O h;clear h;have j:=O (OB p ks A c w d l a b g T f);clear d f;go_in
 go_wp2_with fail;refine j.o.mono ?_;rintro e w1⟨⟨i,rfl,hi⟩,rfl⟩;rw [k.o] at hi
 go_wp2_with fail;go_ret;exact⟨rfl,rfl⟩
theorem uN (p:Pd)(ks:List Nat)(n:Nat)(i:ks.length=n)(A:Option Addr)(c:Nat)(w:World)(d:jI w A ks)(h:ks.length≤1000000)(a b:Value)(g:Nat)(T:TypeId)(f:bY w g T #[a,b,J4 p])(r:Bool)(j:ks.all p.is=r) :
  Calls Tryz.prog 151 #[.slice A n c,.func (.func 152) #[] #[.pointer (some ⟨g,0,none⟩)]] w fun e k=>e=.returned (.bool (!r))∧w=k:=by
 subst i;exact FR p ks A c w d h a b g T f r j
theorem PN (l:List Part)(p:Part):kP (l ++ [p])=kP l+p.least:=by simp [kP]
theorem K4 {l M:Int}{c:Pd}{r:List Part}{ks:List Nat}{m:Nat}{rs:Int}(h:Mist.within ((m:Int) - rs) l M=false)(a:ks.length=m)(b:rs=kP r):Mist.fits (⟨l,M,c⟩ :: r) ks=false:=by
 rw [Mist.fits];subst a;subst b;rw [h];rfl
theorem xQ {l M:Int}{b:Pd}{r:List Part}{ks:List Nat}{m a:Nat}{rs:Int}(h:Mist.within ((m:Int) - rs) l M=true)(c:ks.length=m)(e:rs=kP r)(d:(m:Int) - rs=(a:Int)):Mist.fits (⟨l,M,b⟩ :: r) ks=((ks.take a).all b.is && Mist.fits r (ks.drop a)):=by
 rw [Mist.fits];subst c;subst e;rw [h,Bool.true_and,d,amS]
def xO (ps:List Part):Prop:=ps.length≤3∧∀ p ∈ ps,0≤p.least∧p.least≤801∧0≤p.most∧p.most≤801
theorem aaT (nm:Bool)(lo hi:Int)(ps:List Part)(A:Option Addr)(c:Nat)(ks:List Nat)(K:Option Addr)(kc:Nat)(w:World)(hP:fq w A ps)(hpc:ps.length≤c)(hR:xO ps)(hK:jI w K ks)(hl:ks.length≤1000000)(L:ks.length≤kc) :
  Calls Tryz.prog 116 #[.agg #[.bool nm,.int .i64 lo,.int .i64 hi,.slice A ps.length c],.slice K ks.length kc] w fun e w'=>e=.returned (.bool (Mist.fits ps ks))∧Below w.heap.size w w':=by
 obtain⟨n,hn⟩:∃ n,n=ps.length:=⟨_,rfl⟩;obtain⟨m0,C⟩:∃ m,m=ks.length:=⟨_,rfl⟩;have hn3:n≤3:=by rw [hn];exact hR.1
 rw [← hn] at hpc ⊢
 rw [← C] at hl L ⊢
 have P:=O hn;clear hn;have h:=O C;clear C;have HP:=O hP;clear hP;have HR:=O hR;clear hR;have M:=O hK;clear hK;go_in
 go_wp2_with fail;have Q:=O (bY.new w 163 #[.bool nm,.int .i64 lo,.int .i64 hi,.slice A n c]);have yh:=O (aU (Below.refl w.heap.size w) (amL _) (o:=.cells #[.bool nm,.int .i64 lo,.int .i64 hi,.slice A n c] 163));go_loopw [1,14] (fun v i wr=>∃ (k m t:Nat) (a:List Nat) (S:Option Addr),k≤n∧i=.int .i64 k∧v=.slice S m t∧m≤t∧m≤1000000∧Hid (a.length=m)∧Hid (jI wr S a)∧Hid (Mist.fits (ps.drop k) a=Mist.fits ps ks)∧Hid (Below w.heap.size w wr)∧Hid (bY wr w.heap.size 163 #[.bool nm,.int .i64 lo,.int .i64 hi,.slice A n c])) (fun _ i _=>n - (intOf i).toNat)
 case atStart=>exact⟨0,m0,kc,ks,K,amN _,rfl,rfl,L,hl,O h.o.symm,O (M.o.below yh.o),O rfl,yh,Q⟩
 case round =>
  clear Q yh M h hl L;obtain⟨k,m,t,a,S,hk,rfl,rfl,hmc,hm6,h,M,HF,N,Q⟩:=hrel;obtain⟨F,rfl⟩:∃ F:World,F=wr:=⟨_,rfl⟩;have t3:=Q.o.cell 3;have hsz:=Q.o.lt;by_cases W:k < n
  ·obtain⟨b,rfl,r,J⟩:=HP.o.ex (by rw [← P.o];omega);obtain⟨p,hp⟩:∃ p,ps[k]? = some p:=⟨_,amF (by rw [← P.o];exact W)⟩;obtain⟨c0,c1,c2⟩:=J k p hp;have d0:=(N.o.cell (p:=⟨b,k * 3,none⟩) r).trans c0;have d1:=(N.o.cell (p:=⟨b,k * 3+1,none⟩) r).trans c1;have d2:=(N.o.cell (p:=⟨b,k * 3+2,none⟩) r).trans c2;have hpr:=HR.o.2 p (amO hp);have HCL:=O J;have HPP:=O hp;clear c0 c1 c2 J hp;simp only [J4] at d2
   obtain⟨y,d,R⟩:=p;simp only at d0 d1 d2 hpr
   have i1:(0:Int)≤(k:Int):=by omega
   have i2:(k:Int) < (n:Int):=by omega
   have HD:=O (show ps.drop k=⟨y,d,R⟩ :: ps.drop (k+1) by
    rw [amZ (by rw [← P.o];exact W),(amG.1 HPP.o).2])
   have H:=O (show Mist.fits (⟨y,d,R⟩ :: ps.drop (k+1)) a=Mist.fits ps ks by rw [← HD.o];exact HF.o);clear HF HD;obtain⟨q,hq⟩:∃ q,q=LP R:=⟨_,rfl⟩;rw [← hq] at d2
   have HQ:=O hq;clear hq;have al0:k+1≤c:=by omega
   rcases Classical.em (c=k+1) with rfl | hck
   all_goals
    go_wp2_with fail;have B:=O (bY.new F 185 #[.int .i64 y,.int .i64 d,.func (.func q) #[] #[]]);have x:=O (aU N.o N.o.size (o:=.cells #[.int .i64 y,.int .i64 d,.func (.func q) #[] #[]] 185));go_loopw [7,25] (fun v j Ip=>∃ (f:Nat) (rs:Int),f≤n - (k+1)∧j=.int .i64 f∧v=.int .i64 rs∧0≤rs∧rs≤801 * (f:Int)∧Hid (rs=kP ((ps.drop (k+1)).take f))∧Hid (Below w.heap.size w Ip)∧Hid (bY Ip F.heap.size 185 #[.int .i64 y,.int .i64 d,.func (.func q) #[] #[]])∧Hid (Below F.heap.size F Ip)) (fun _ j _=>n - (k+1) - (intOf j).toNat)
    case atStart=>exact⟨0,0,amN _,rfl,rfl,Int.le_refl _,by omega,O (by simp [kP]),x,B,O (aU (Below.refl _ _) (amL _))⟩
    case round =>
     clear x B;obtain⟨f,rs,hj,rfl,rfl,hr0,hr1,UA,x,B,l⟩:=hrel;by_cases U:f < n - (k+1)
     ·first
      | (exfalso;omega)
      | (obtain ⟨Z, D⟩ : ∃ Z, ps[k + 1 + f]? = some Z := ⟨_, amF (by rw [← P.o]; omega)⟩
         obtain⟨e0,e1,e2⟩:=HCL.o (k+1+f) Z D;have aj9:=HR.o.2 Z (amO D);have g0:=(x.o.cell (p:=⟨b,(k+1+f) * 3,none⟩) r).trans e0;have g1:=(x.o.cell (p:=⟨b,(k+1+f) * 3+1,none⟩) r).trans e1;have g2:=(x.o.cell (p:=⟨b,(k+1+f) * 3+2,none⟩) r).trans e2;rw [show (k+1+f) * 3=(k+1) * 3+f * 3 by omega] at g0 g1 g2
         have HP2:=O D;clear e0 e1 e2 D;simp only [J4] at g2
         obtain⟨T,akp,pd2⟩:=Z;simp only at g0 g1 g2 aj9
         obtain⟨q2,X⟩:∃ q,q=LP pd2:=⟨_,rfl⟩;rw [← X] at g2
         clear X;have j1:(0:Int)≤(f:Int):=by omega
         have j2:(f:Int) < ((n - (k+1):Nat):Int):=by omega
         have j3:decide (f < n - (k+1))=true:=amW U;go_wp2_with fail
         refine⟨⟨f+1,rs+T,by omega,by go_num,rfl,by omega,by omega,O ?_,O (aU x.o x.o.size),O (B.o.alloc _),O (aU l.o l.o.size)⟩,by simp [intOf];omega⟩
         rw [List.take_add_one,List.getElem?_drop,HP2.o,UA.o];exact (PN _ (⟨T,akp,pd2⟩:Part)).symm)
     ·have I:=O (show rs=kP (ps.drop (k+1)) by rw [UA.o,amP (by rw [List.length_drop,← P.o];omega)]);clear UA;have al7:=B.o.lt;have j3:decide (f < n - (k+1))=false:=amX U;have b0:=B.o.cell 0;have b1:=B.o.cell 1;have hjn:(f:Int)≤3:=by omega
      have al4:rs≤2403:=by omega
      have C:(0:Int)≤(m:Int):=by omega
      have hm1:(m:Int)≤1000000:=by omega
      cases Y:Mist.within ((m:Int) - rs) y d
      ·have G:=O Y;clear Y;go_wp2_with fail;refine (dO ((m:Int) - rs) y d false G.o _).mono ?_;rintro e w2⟨rfl,rfl⟩;go_wp2_with fail;go_ret;exact⟨bM (by rw [← H.o,K4 G.o h.o I.o]),x.o⟩
      ·have G:=O Y;have hw2:y≤(m:Int) - rs∧(m:Int) - rs≤d:=by simpa [Mist.within] using Y
       obtain⟨g,hnn⟩:∃ g:Nat,(m:Int) - rs=(g:Int):=⟨((m:Int) - rs).toNat,by omega⟩;have vv:=O hnn;have hnm:g≤m:=by omega
       clear Y;have n1:(0:Int)≤(g:Int):=by omega
       have n2:(g:Int)≤(m:Int):=by omega
       cases E:(a.take g).all R.is
       ·have u:=O E;clear E;go_wp2_with fail;refine (dO _ y d true (by rw [← vv.o];exact G.o) _).mono ?_;rintro e w2⟨rfl,rfl⟩;go_wp2_with fail;refine (uN R (a.take g) g (by rw [List.length_take,h.o];omega) S t _ ((M.o.below l.o).take g) (by rw [List.length_take,h.o];omega) _ _ F.heap.size 185 (by rw [J4,← HQ.o];exact B.o) false u.o).mono ?_;rintro e w3⟨rfl,rfl⟩;go_wp2_with fail;go_ret;exact⟨bM (by rw [← H.o,xQ G.o h.o I.o vv.o,u.o,Bool.false_and]),x.o⟩
       ·have u:=O E;clear E;by_cases V:t=g
        all_goals
         go_wp2_with fail;refine (dO _ y d true (by rw [← vv.o];exact G.o) _).mono ?_;rintro e w2⟨rfl,rfl⟩;go_wp2_with fail;refine (uN R (a.take g) g (by rw [List.length_take,h.o];omega) S _ _ ((M.o.below l.o).take g) (by rw [List.length_take,h.o];omega) _ _ F.heap.size 185 (by rw [J4,← HQ.o];exact B.o) true u.o).mono ?_;rintro e w3⟨rfl,rfl⟩;go_wp2_with fail;have uU:=O ((M.o.below l.o).drop (n:=g) (c:=t) (by rw [h.o];exact hmc))
         refine⟨⟨k+1,m - g,_,a.drop g,_,by omega,by go_num,rfl,by omega,by omega,O (by rw [List.length_drop,h.o]),O (by have h9:=uU.o;first | rwa [if_pos V] at h9 | rwa [if_neg V] at h9),O (by have h9:=H.o;rw [xQ G.o h.o I.o vv.o,u.o,Bool.true_and] at h9;exact h9),x,O (Q.o.below l.o hsz)⟩,by simp [intOf];omega⟩
  ·have HE:=O (show Mist.fits ps ks=decide (m=0) by
    rw [← HF.o,List.drop_of_length_le (by rw [← P.o];omega),← h.o,Mist.fits]
    cases a <;> simp)
   go_wp2_with fail;go_ret
   refine⟨bM ?_,N.o⟩
   rw [HE.o,amK];simp
end
section
open Go.RowKit Mist
attribute [local go_sem] ak aN aV aF aj
theorem Co (k:Nat)(h:k=1∨k=2∨k=30∨k=31)(x:Bs)(n a:Int)(t:Option Addr)(B u:Nat)(w:World):Calls Tryz.prog 114 #[.agg #[.int .u8 (k:Nat),.string (aG x),.int .i64 n,.slice t B u,.int .i64 a]] w (iQ (Mist.shapeOf k n) w):=by
 rcases h with rfl | rfl | rfl | rfl
 all_goals
  go_in
  go_wp2_with fail;refine (cO _ _).mono ?_;rintro e w1⟨rfl,c⟩;go_wp2_with fail;refine (cO _ _).mono ?_;rintro e I⟨rfl,d⟩;go_wp2_with fail;refine (cO _ _).mono ?_;rintro e J⟨rfl,f⟩;have g:=O (jU c d f);have A:=g.o.1;clear c d f;go_upto_region 5 with (fail)
  obtain⟨K,q,b,r,C,D,y,E,-⟩:=g.o.2;rw [q];clear q A g;have F:=r.o.cell 0;have G:=r.o.cell 2;have i:=b.o.cell 0;have j:=b.o.cell 1;have l:=b.o.cell 2;have m:=b.o.cell 3;have r0:=b.o.frozen 0;have r1:=b.o.frozen 1;have r2:=b.o.frozen 2;have H:=b.o.frozen 3;go_wp2_with fail
  first|(refine bodyPost_ret (v:=.tuple #[.agg #[.bool false,.int .i64 0,.int .i64 9999,.slice none 0 0],.bool true]) ?_ rfl ?_;focus (simp [results,Tryz.f114,go_sem,i,j,l,m];done))|(refine bodyPost_ret (v:=.tuple #[.agg #[.bool false,.int .i64 0,.int .i64 1,.slice none 0 0],.bool true]) ?_ rfl ?_;focus (simp [results,Tryz.f114,go_sem,i,j,l,m];done))|(refine bodyPost_ret (v:=.tuple #[.agg #[.bool false,.int .i64 0,.int .i64 0,.slice none 0 0],.bool true]) ?_ rfl ?_;focus (simp [results,Tryz.f114,go_sem,i,j,l,m];done))
  refine⟨_,_,_,_,_,_,_,rfl,?_,rfl,rfl,rfl,rfl,rfl,amL _,?_⟩
  ·repeat (first|(with_reducible exact C.o)|(with_reducible refine gQ ?_ ?_)|(with_reducible refine aU ?_ ?_) | omega|(simp;omega))
  ·exact fq.nil _
def acW:=@Co 1 (.inl rfl)
def acX:=@Co 2 (.inr (.inl rfl))
def YA:=@Co 30 (.inr (.inr (.inl rfl)))
def YB:=@Co 31 (.inr (.inr (.inr rfl)))
theorem Hy (k:Nat)(h:k=3∨k=32∨k=45)(x:Bs)(n a:Int)(B:Option Addr)(F C:Nat)(w:World):Calls Tryz.prog 114 #[.agg #[.int .u8 (k:Nat),.string (aG x),.int .i64 n,.slice B F C,.int .i64 a]] w (iQ (Mist.shapeOf k n) w):=by
 rcases h with rfl | rfl | rfl
 all_goals
  go_in
  go_wp2_with fail;refine (cO _ _).mono ?_;rintro e w1⟨rfl,f⟩;go_wp2_with fail;refine (cO _ _).mono ?_;rintro e M⟨rfl,g⟩;go_wp2_with fail;refine (cO _ _).mono ?_;rintro e N⟨rfl,i⟩;have j:=O (jU f g i);have E:=j.o.1;clear f g i;go_upto_region 5 with (fail)
  obtain⟨P,t,b,u,G,I,D,J,-⟩:=j.o.2;rw [t];clear t E j;have K:=u.o.cell 0;have L:=u.o.cell 2;have l:=b.o.cell 0;have m:=b.o.cell 1;have q:=b.o.cell 2;have r:=b.o.cell 3;have r0:=b.o.frozen 0;have r1:=b.o.frozen 1;have r2:=b.o.frozen 2;have y:=b.o.frozen 3;go_wp2_with fail;refine (B_ _ _ _ _).mono ?_;rintro e A⟨rfl,d⟩;have c:=O (show bY A (w.heap.size+1) 163 #[.bool false,.int .i64 0,.int .i64 0,.slice none 0 0] from bY.below (by repeat (first|(with_reducible exact b.o)|(with_reducible refine bY.alloc ?_ _))) d (by first | omega|(simp;omega)));have H:=O (show Below w.heap.size w A from Below.trans (by repeat (first|(with_reducible exact G.o)|(with_reducible refine gQ ?_ ?_)|(with_reducible refine aU ?_ ?_) | omega|(simp;omega))) (d.mono (by first | omega|(simp;omega))));clear d;clear l m q r r0 r1 r2 y;have l:=c.o.cell 0;have m:=c.o.cell 1;have q:=c.o.cell 2;have r:=c.o.cell 3;have r0:=c.o.frozen 0;have r1:=c.o.frozen 1;have r2:=c.o.frozen 2;have y:=c.o.frozen 3;go_wp2_with fail;refine bodyPost_ret (v:=.tuple #[.agg #[.bool true,.int .i64 0,.int .i64 0,.slice none 0 0],.bool true]) (by simp [results,Tryz.f114,go_sem,l,m,q,r]) rfl ?_
  refine⟨_,_,_,_,_,_,_,rfl,?_,rfl,rfl,rfl,rfl,rfl,amL _,?_⟩
  ·repeat (first|(with_reducible exact H.o)|(with_reducible refine gQ ?_ ?_)|(with_reducible refine aU ?_ ?_) | omega|(simp;omega))
  ·exact fq.nil _
def acY:=@Hy 3 (.inl rfl)
def YC:=@Hy 32 (.inr (.inl rfl))
def YK:=@Hy 45 (.inr (.inr rfl))
theorem Cq (k:Nat)(h:k=4∨k=5∨k=19∨k=26)(x:Bs)(n a:Int)(G:Option Addr)(nk ck:Nat)(w:World):Calls Tryz.prog 114 #[.agg #[.int .u8 (k:Nat),.string (aG x),.int .i64 n,.slice G nk ck,.int .i64 a]] w (iQ (Mist.shapeOf k n) w):=by
 rcases h with rfl | rfl | rfl | rfl
 all_goals
  go_in
  go_wp2_with fail;refine (cO _ _).mono ?_;rintro e w1⟨rfl,f⟩;go_wp2_with fail;refine (cO _ _).mono ?_;rintro e w2⟨rfl,g⟩;go_wp2_with fail;refine (cO _ _).mono ?_;rintro e w3⟨rfl,i⟩;have t:=O (jU f g i);have hz:=t.o.1;clear f g i;go_upto_region 5 with (fail)
  obtain⟨w5,C,b,D,qZ,Ms,hs7,Qv,j,l,m,q,r⟩:=t.o.2;rw [C];clear C hz t;have N:=j.o.cell 0;have P:=l.o.cell 0;have Q:=m.o.cell 0;have R:=q.o.cell 0;have S:=r.o.cell 0;have U:=j.o.cell 1;have V:=l.o.cell 1;have W:=m.o.cell 1;have X:=q.o.cell 1;have Y:=r.o.cell 1;have Z:=j.o.cell 2;have akO:=l.o.cell 2;have akP:=m.o.cell 2;have akQ:=q.o.cell 2;have akR:=r.o.cell 2;have I:=j.o.lt;have J:=l.o.lt;have K:=m.o.lt;have L:=q.o.lt;have M:=r.o.lt;have p0:=D.o.cell 0;have p2:=D.o.cell 2;have u:=b.o.cell 0;have y:=b.o.cell 1;have A:=b.o.cell 2;have B:=b.o.cell 3;have r0:=b.o.frozen 0;have r1:=b.o.frozen 1;have r2:=b.o.frozen 2;have E:=b.o.frozen 3;go_wp2_with fail;refine (BZ _ _ _ _).mono ?_;rintro e F⟨rfl,c⟩;have H:=O (lD c);have d:=O (show bY F (w.heap.size+1) 163 #[.bool false,.int .i64 0,.int .i64 0,.slice none 0 0] from bY.below (by repeat (first|(with_reducible exact b.o)|(with_reducible refine bY.alloc ?_ _))) c (by first | omega|(simp;omega)));have sI:=O (show Below w.heap.size w F from Below.trans (by repeat (first|(with_reducible exact qZ.o)|(with_reducible refine gQ ?_ ?_)|(with_reducible refine aU ?_ ?_) | omega|(simp;omega))) (c.mono (by first | omega|(simp;omega))));clear c;clear u y A B r0 r1 r2 E;have u:=d.o.cell 0;have y:=d.o.cell 1;have A:=d.o.cell 2;have B:=d.o.cell 3;have r0:=d.o.frozen 0;have r1:=d.o.frozen 1;have r2:=d.o.frozen 2;have E:=d.o.frozen 3;go_wp2_with fail;refine bodyPost_ret (v:=.tuple #[.agg #[.bool false,.int .i64 0,.int .i64 0,.slice (some ⟨w5.heap.size,0,none⟩) 1 1],.bool true]) (by simp [results,Tryz.f114,go_sem,u,y,A,B]) rfl ?_
  refine⟨_,_,_,_,_,_,_,rfl,?_,rfl,rfl,rfl,rfl,rfl,amL _,?_⟩
  ·repeat (first|(with_reducible exact sI.o)|(with_reducible refine gQ ?_ ?_)|(with_reducible refine aU ?_ ?_) | omega|(simp;omega))
  ·refine fq.one (T:=185) ?_
   repeat (first|(with_reducible refine bY.far ?_ ?_ _) | exact H.o|(simp;omega))
def acZ:=@Cq 4 (.inl rfl)
def ac0:=@Cq 5 (.inr (.inl rfl))
def Yr:=@Cq 19 (.inr (.inr (.inl rfl)))
def Yz:=@Cq 26 (.inr (.inr (.inr rfl)))
theorem tN (k:Nat)(h:k=20∨k=21∨k=22∨k=25∨k=43∨k=44)(x:Bs)(n a:Int)(G:Option Addr)(nk ck:Nat)(w:World):Calls Tryz.prog 114 #[.agg #[.int .u8 (k:Nat),.string (aG x),.int .i64 n,.slice G nk ck,.int .i64 a]] w (iQ (Mist.shapeOf k n) w):=by
 rcases h with rfl | rfl | rfl | rfl | rfl | rfl
 all_goals
  go_in
  go_wp2_with fail;refine (cO _ _).mono ?_;rintro e w1⟨rfl,f⟩;go_wp2_with fail;refine (cO _ _).mono ?_;rintro e w2⟨rfl,g⟩;go_wp2_with fail;refine (cO _ _).mono ?_;rintro e w3⟨rfl,i⟩;have t:=O (jU f g i);have hz:=t.o.1;clear f g i;go_upto_region 5 with (fail)
  obtain⟨w5,C,b,D,qZ,Ms,hs7,Qv,j,l,m,q,r⟩:=t.o.2;rw [C];clear C hz t;have N:=j.o.cell 0;have P:=l.o.cell 0;have Q:=m.o.cell 0;have R:=q.o.cell 0;have S:=r.o.cell 0;have U:=j.o.cell 1;have V:=l.o.cell 1;have W:=m.o.cell 1;have X:=q.o.cell 1;have Y:=r.o.cell 1;have Z:=j.o.cell 2;have akO:=l.o.cell 2;have akP:=m.o.cell 2;have akQ:=q.o.cell 2;have akR:=r.o.cell 2;have I:=j.o.lt;have J:=l.o.lt;have K:=m.o.lt;have L:=q.o.lt;have M:=r.o.lt;have p0:=D.o.cell 0;have p2:=D.o.cell 2;have u:=b.o.cell 0;have y:=b.o.cell 1;have A:=b.o.cell 2;have B:=b.o.cell 3;have r0:=b.o.frozen 0;have r1:=b.o.frozen 1;have r2:=b.o.frozen 2;have E:=b.o.frozen 3;go_wp2_with fail;refine (B_ _ _ _ _).mono ?_;rintro e F⟨rfl,c⟩;have H:=O (lD c);have d:=O (show bY F (w.heap.size+1) 163 #[.bool false,.int .i64 0,.int .i64 0,.slice none 0 0] from bY.below (by repeat (first|(with_reducible exact b.o)|(with_reducible refine bY.alloc ?_ _))) c (by first | omega|(simp;omega)));have sI:=O (show Below w.heap.size w F from Below.trans (by repeat (first|(with_reducible exact qZ.o)|(with_reducible refine gQ ?_ ?_)|(with_reducible refine aU ?_ ?_) | omega|(simp;omega))) (c.mono (by first | omega|(simp;omega))));clear c;clear u y A B r0 r1 r2 E;have u:=d.o.cell 0;have y:=d.o.cell 1;have A:=d.o.cell 2;have B:=d.o.cell 3;have r0:=d.o.frozen 0;have r1:=d.o.frozen 1;have r2:=d.o.frozen 2;have E:=d.o.frozen 3;go_wp2_with fail;refine bodyPost_ret (v:=.tuple #[.agg #[.bool true,.int .i64 0,.int .i64 0,.slice (some ⟨w5.heap.size,0,none⟩) 1 1],.bool true]) (by simp [results,Tryz.f114,go_sem,u,y,A,B]) rfl ?_
  refine⟨_,_,_,_,_,_,_,rfl,?_,rfl,rfl,rfl,rfl,rfl,amL _,?_⟩
  ·repeat (first|(with_reducible exact sI.o)|(with_reducible refine gQ ?_ ?_)|(with_reducible refine aU ?_ ?_) | omega|(simp;omega))
  ·refine fq.one (T:=185) ?_
   repeat (first|(with_reducible refine bY.far ?_ ?_ _) | exact H.o|(simp;omega))
def Yt:=@tN 20 (.inl rfl)
def Yu:=@tN 21 (.inr (.inl rfl))
def Yv:=@tN 22 (.inr (.inr (.inl rfl)))
def Yy:=@tN 25 (.inr (.inr (.inr (.inl rfl))))
def YI:=@tN 43 (.inr (.inr (.inr (.inr (.inl rfl)))))
def YJ:=@tN 44 (.inr (.inr (.inr (.inr (.inr rfl)))))
theorem P6 (k:Nat)(h:k=24∨k=41)(x:Bs)(n a:Int)(B:Option Addr)(G D:Nat)(w:World):Calls Tryz.prog 114 #[.agg #[.int .u8 (k:Nat),.string (aG x),.int .i64 n,.slice B G D,.int .i64 a]] w (iQ (Mist.shapeOf k n) w):=by
 rcases h with rfl | rfl
 all_goals
  go_in
  go_wp2_with fail;refine (cO _ _).mono ?_;rintro e w1⟨rfl,f⟩;go_wp2_with fail;refine (cO _ _).mono ?_;rintro e P⟨rfl,g⟩;go_wp2_with fail;refine (cO _ _).mono ?_;rintro e Q⟨rfl,i⟩;have j:=O (jU f g i);have F:=j.o.1;clear f g i;go_upto_region 5 with (fail)
  obtain⟨J,t,b,u,H,K,E,L,-⟩:=j.o.2;rw [t];clear t F j;have M:=u.o.cell 0;have N:=u.o.cell 2;have l:=b.o.cell 0;have m:=b.o.cell 1;have q:=b.o.cell 2;have r:=b.o.cell 3;have r0:=b.o.frozen 0;have r1:=b.o.frozen 1;have r2:=b.o.frozen 2;have y:=b.o.frozen 3;go_wp2_with fail;refine (B_ _ _ _ _).mono ?_;rintro e A⟨rfl,c⟩;have C:=O (lD c);have d:=O (show bY A (w.heap.size+1) 163 #[.bool false,.int .i64 0,.int .i64 0,.slice none 0 0] from bY.below (by repeat (first|(with_reducible exact b.o)|(with_reducible refine bY.alloc ?_ _))) c (by first | omega|(simp;omega)));have I:=O (show Below w.heap.size w A from Below.trans (by repeat (first|(with_reducible exact H.o)|(with_reducible refine gQ ?_ ?_)|(with_reducible refine aU ?_ ?_) | omega|(simp;omega))) (c.mono (by first | omega|(simp;omega))));clear c;clear l m q r r0 r1 r2 y;have l:=d.o.cell 0;have m:=d.o.cell 1;have q:=d.o.cell 2;have r:=d.o.cell 3;have r0:=d.o.frozen 0;have r1:=d.o.frozen 1;have r2:=d.o.frozen 2;have y:=d.o.frozen 3;go_wp2_with fail;refine bodyPost_ret (v:=.tuple #[.agg #[.bool true,.int .i64 0,.int .i64 0,.slice (some ⟨J.heap.size,0,none⟩) 1 1],.bool true]) (by simp [results,Tryz.f114,go_sem,l,m,q,r]) rfl ?_
  refine⟨_,_,_,_,_,_,_,rfl,?_,rfl,rfl,rfl,rfl,rfl,amL _,?_⟩
  ·repeat (first|(with_reducible exact I.o)|(with_reducible refine gQ ?_ ?_)|(with_reducible refine aU ?_ ?_) | omega|(simp;omega))
  ·refine fq.one (T:=185) ?_
   repeat (first|(with_reducible refine bY.far ?_ ?_ _) | exact C.o|(simp;omega))
def Yx:=@P6 24 (.inl rfl)
def YG:=@P6 41 (.inr rfl)
theorem YE (x:Bs)(n a:Int)(D:Option Addr)(J F:Nat)(w:World):Calls Tryz.prog 114 #[.agg #[.int .u8 34,.string (aG x),.int .i64 n,.slice D J F,.int .i64 a]] w (iQ (Mist.shapeOf 34 n) w):=by
 go_in
 go_wp2_with fail;refine (cO _ _).mono ?_;rintro e w1⟨rfl,g⟩;go_wp2_with fail;refine (cO _ _).mono ?_;rintro e R⟨rfl,h⟩;go_wp2_with fail;refine (cO _ _).mono ?_;rintro e S⟨rfl,i⟩;have t:=O (jU g h i);have I:=t.o.1;clear g h i;go_upto_region 5 with (fail)
 obtain⟨U,A,c,B,K,M,G,N,-⟩:=t.o.2;rw [A];clear A I t;have P:=B.o.cell 0;have Q:=B.o.cell 2;have j:=c.o.cell 0;have k:=c.o.cell 1;have l:=c.o.cell 2;have m:=c.o.cell 3;have r0:=c.o.frozen 0;have r1:=c.o.frozen 1;have r2:=c.o.frozen 2;have q:=c.o.frozen 3;go_wp2_with fail;refine (OL _ _).mono ?_;rintro e y⟨rfl,f⟩;have b:=O (show bY y (w.heap.size+1) 163 #[.bool false,.int .i64 0,.int .i64 0,.slice none 0 0] from bY.below (by repeat (first|(with_reducible exact c.o)|(with_reducible refine bY.alloc ?_ _))) f (by first | omega|(simp;omega)));have L:=O (show Below w.heap.size w y from Below.trans (by repeat (first|(with_reducible exact K.o)|(with_reducible refine gQ ?_ ?_)|(with_reducible refine aU ?_ ?_) | omega|(simp;omega))) (f.mono (by first | omega|(simp;omega))));clear f;clear j k l m r0 r1 r2 q;have j:=b.o.cell 0;have k:=b.o.cell 1;have l:=b.o.cell 2;have m:=b.o.cell 3;have r0:=b.o.frozen 0;have r1:=b.o.frozen 1;have r2:=b.o.frozen 2;have q:=b.o.frozen 3;have H:=b.o.lt;go_wp2_with fail;refine (B_ _ _ _ _).mono ?_;rintro e C⟨rfl,r⟩;have E:=O (lD r);have d:=O (show bY C (w.heap.size+1) 163 #[.bool false,.int .i64 0,.int .i64 0,.slice none 0 0] from bY.below (by repeat (first|(with_reducible exact b.o)|(with_reducible refine bY.alloc ?_ _))) r (by first | omega|(simp;omega)));have u:=O (show Below w.heap.size w C from Below.trans (by repeat (first|(with_reducible exact L.o)|(with_reducible refine gQ ?_ ?_)|(with_reducible refine aU ?_ ?_) | omega|(simp;omega))) (r.mono (by first | omega|(simp;omega))));clear r;clear j k l m r0 r1 r2 q;have j:=d.o.cell 0;have k:=d.o.cell 1;have l:=d.o.cell 2;have m:=d.o.cell 3;have r0:=d.o.frozen 0;have r1:=d.o.frozen 1;have r2:=d.o.frozen 2;have q:=d.o.frozen 3;go_wp2_with fail;refine bodyPost_ret (v:=.tuple #[.agg #[.bool true,.int .i64 0,.int .i64 0,.slice (some ⟨y.heap.size,0,none⟩) 1 1],.bool true]) (by simp [results,Tryz.f114,go_sem,j,k,l,m]) rfl ?_
 refine⟨_,_,_,_,_,_,_,rfl,?_,rfl,rfl,rfl,rfl,rfl,amL _,?_⟩
 ·repeat (first|(with_reducible exact u.o)|(with_reducible refine gQ ?_ ?_)|(with_reducible refine aU ?_ ?_) | omega|(simp;omega))
 ·refine fq.one (T:=185) ?_
  repeat (first|(with_reducible refine bY.far ?_ ?_ _) | exact E.o|(simp;omega))
theorem YF (x:Bs)(n a:Int)(D:Option Addr)(J F:Nat)(w:World):Calls Tryz.prog 114 #[.agg #[.int .u8 40,.string (aG x),.int .i64 n,.slice D J F,.int .i64 a]] w (iQ (Mist.shapeOf 40 n) w):=by
 go_in
 go_wp2_with fail;refine (cO _ _).mono ?_;rintro e w1⟨rfl,g⟩;go_wp2_with fail;refine (cO _ _).mono ?_;rintro e R⟨rfl,h⟩;go_wp2_with fail;refine (cO _ _).mono ?_;rintro e S⟨rfl,i⟩;have t:=O (jU g h i);have I:=t.o.1;clear g h i;go_upto_region 5 with (fail)
 obtain⟨U,A,c,B,K,M,G,N,-⟩:=t.o.2;rw [A];clear A I t;have P:=B.o.cell 0;have Q:=B.o.cell 2;have j:=c.o.cell 0;have k:=c.o.cell 1;have l:=c.o.cell 2;have m:=c.o.cell 3;have r0:=c.o.frozen 0;have r1:=c.o.frozen 1;have r2:=c.o.frozen 2;have q:=c.o.frozen 3;go_wp2_with fail;refine (abz _ _).mono ?_;rintro e y⟨rfl,f⟩;have b:=O (show bY y (w.heap.size+1) 163 #[.bool false,.int .i64 0,.int .i64 0,.slice none 0 0] from bY.below (by repeat (first|(with_reducible exact c.o)|(with_reducible refine bY.alloc ?_ _))) f (by first | omega|(simp;omega)));have L:=O (show Below w.heap.size w y from Below.trans (by repeat (first|(with_reducible exact K.o)|(with_reducible refine gQ ?_ ?_)|(with_reducible refine aU ?_ ?_) | omega|(simp;omega))) (f.mono (by first | omega|(simp;omega))));clear f;clear j k l m r0 r1 r2 q;have j:=b.o.cell 0;have k:=b.o.cell 1;have l:=b.o.cell 2;have m:=b.o.cell 3;have r0:=b.o.frozen 0;have r1:=b.o.frozen 1;have r2:=b.o.frozen 2;have q:=b.o.frozen 3;have H:=b.o.lt;go_wp2_with fail;refine (B_ _ _ _ _).mono ?_;rintro e C⟨rfl,r⟩;have E:=O (lD r);have d:=O (show bY C (w.heap.size+1) 163 #[.bool false,.int .i64 0,.int .i64 0,.slice none 0 0] from bY.below (by repeat (first|(with_reducible exact b.o)|(with_reducible refine bY.alloc ?_ _))) r (by first | omega|(simp;omega)));have u:=O (show Below w.heap.size w C from Below.trans (by repeat (first|(with_reducible exact L.o)|(with_reducible refine gQ ?_ ?_)|(with_reducible refine aU ?_ ?_) | omega|(simp;omega))) (r.mono (by first | omega|(simp;omega))));clear r;clear j k l m r0 r1 r2 q;have j:=d.o.cell 0;have k:=d.o.cell 1;have l:=d.o.cell 2;have m:=d.o.cell 3;have r0:=d.o.frozen 0;have r1:=d.o.frozen 1;have r2:=d.o.frozen 2;have q:=d.o.frozen 3;go_wp2_with fail;refine bodyPost_ret (v:=.tuple #[.agg #[.bool true,.int .i64 0,.int .i64 0,.slice (some ⟨y.heap.size,0,none⟩) 1 1],.bool true]) (by simp [results,Tryz.f114,go_sem,j,k,l,m]) rfl ?_
 refine⟨_,_,_,_,_,_,_,rfl,?_,rfl,rfl,rfl,rfl,rfl,amL _,?_⟩
 ·repeat (first|(with_reducible exact u.o)|(with_reducible refine gQ ?_ ?_)|(with_reducible refine aU ?_ ?_) | omega|(simp;omega))
 ·refine fq.one (T:=185) ?_
  repeat (first|(with_reducible refine bY.far ?_ ?_ _) | exact E.o|(simp;omega))
theorem YD (x:Bs)(n a:Int)(A:Option Addr)(E B:Nat)(w:World):Calls Tryz.prog 114 #[.agg #[.int .u8 33,.string (aG x),.int .i64 n,.slice A E B,.int .i64 a]] w (iQ (Mist.shapeOf 33 n) w):=by
 go_in
 go_wp2_with fail;refine (cO _ _).mono ?_;rintro e w1⟨rfl,f⟩;go_wp2_with fail;refine (cO _ _).mono ?_;rintro e L⟨rfl,g⟩;go_wp2_with fail;refine (cO _ _).mono ?_;rintro e M⟨rfl,h⟩;have i:=O (jU f g h);have D:=i.o.1;clear f g h;go_upto_region 5 with (fail)
 obtain⟨N,t,c,u,F,H,C,I,-⟩:=i.o.2;rw [t];clear t D i;have J:=u.o.cell 0;have K:=u.o.cell 2;have k:=c.o.cell 0;have l:=c.o.cell 1;have m:=c.o.cell 2;have q:=c.o.cell 3;have r0:=c.o.frozen 0;have r1:=c.o.frozen 1;have r2:=c.o.frozen 2;have y:=c.o.frozen 3;go_wp2_with fail;refine (OL _ _).mono ?_;rintro e r⟨rfl,d⟩;have b:=O (show bY r (w.heap.size+1) 163 #[.bool false,.int .i64 0,.int .i64 0,.slice none 0 0] from bY.below (by repeat (first|(with_reducible exact c.o)|(with_reducible refine bY.alloc ?_ _))) d (by first | omega|(simp;omega)));have G:=O (show Below w.heap.size w r from Below.trans (by repeat (first|(with_reducible exact F.o)|(with_reducible refine gQ ?_ ?_)|(with_reducible refine aU ?_ ?_) | omega|(simp;omega))) (d.mono (by first | omega|(simp;omega))));clear d;clear k l m q r0 r1 r2 y;have k:=b.o.cell 0;have l:=b.o.cell 1;have m:=b.o.cell 2;have q:=b.o.cell 3;have r0:=b.o.frozen 0;have r1:=b.o.frozen 1;have r2:=b.o.frozen 2;have y:=b.o.frozen 3;have j:=b.o.lt;go_wp2_with fail;refine bodyPost_ret (v:=.tuple #[.agg #[.bool false,.int .i64 (-9223372036854775808),.int .i64 9223372036854775807,.slice (some ⟨r.heap.size,0,none⟩) 1 1],.bool true]) (by simp [results,Tryz.f114,go_sem,k,l,m,q,j]) rfl ?_
 refine⟨_,_,_,_,_,_,_,rfl,?_,rfl,rfl,rfl,rfl,rfl,amL _,?_⟩
 ·repeat (first|(with_reducible exact G.o)|(with_reducible refine gQ ?_ ?_)|(with_reducible refine aU ?_ ?_) | omega|(simp;omega))
 ·refine fq.one (T:=185) ?_;exact wB (by simp)
end
