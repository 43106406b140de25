/-
  A part of the proof.
-/
import Derived.Test.YtalghggmkojblaaGreatDoorS40
set_option linter.all false
set_option maxRecDepth 100000
set_option maxHeartbeats 4000000
namespace Mist
theorem one_le (g t:Bs)(k n:Nat)(a:g.length+t.length≤n):tl [(g,k,t)]≤n:=by
 rw [eu,iX];omega
theorem Vt (a:Bool)(z:Gs)(I:eO):tl (eO.on (dQ a z) I)≤8+tl I:=Nat.le_trans (Kj _ I) (Nat.add_le_add_right (nL a z) _)
theorem mD (s:Gs)(n:Nd):(s.put n).ns.length=s.ns.length+1:=amQ
theorem uz (a:Bool):∀ (d:Nat) (s:Gs),tl (dG a d s).pc≤14 * d+4∧(dG a d s).st.ns.length≤s.ns.length+(d+1):=by
 have b:∀ (s:Gs) (t:Bs) (k:Nat) (n:Nd),t.length≤4→tl (d9 [([],k,t)] s.tl n).pc≤4∧(d9 [([],k,t)] s.tl n).st.ns.length=s.ns.length+1:=fun s t k n c =>
  ⟨one_le [] t k 4 (by simpa using c),mD _ _⟩
 intro d
 induction d with
 | zero =>
  intro s;rw [dG];split
  ·obtain⟨h1,h2⟩:=b s [105,110,116] 3 ⟨30,[],0,[],0⟩ (by decide);exact⟨by omega,by omega⟩
  split
  ·obtain⟨h1,h2⟩:=b s [98,111,111,108] 3 ⟨31,[],0,[],0⟩ (by decide);exact⟨by omega,by omega⟩
  ·obtain⟨h1,h2⟩:=b s (dD s.nx) 1 ⟨32,dD s.nx,0,[],0⟩ (kF _);exact⟨by omega,by omega⟩
 | succ d e =>
  intro s;rw [dG];split
  ·obtain⟨h1,h2⟩:=b s [105,110,116] 3 ⟨30,[],0,[],0⟩ (by decide);exact⟨by omega,by omega⟩
  split
  ·obtain⟨h1,h2⟩:=b s [98,111,111,108] 3 ⟨31,[],0,[],0⟩ (by decide);exact⟨by omega,by omega⟩
  split
  ·obtain⟨h1,h2⟩:=b s (dD s.nx) 1 ⟨32,dD s.nx,0,[],0⟩ (kF _);exact⟨by omega,by omega⟩
  ·simp only
   obtain⟨h1,h2⟩:=e s.tl;have h2:(dG a d s.tl).st.ns.length≤s.ns.length+(d+1):=h2;have f:=nL a (dG a d s.tl).st.tl;have g:(dG a d s.tl).st.nx % 6 < 6:=Nat.mod_lt _ (by decide);have hi:=wK ⟨1+(dG a d s.tl).st.nx % 6,by omega⟩
   refine⟨?_,?_⟩
   ·show tl (gu [91] :: ((dG a d s.tl).pc ++ [(_,4,[59]),([],2,_),gu [93]]))≤_
    simp only [jM,gN,eu,iX,List.length_cons,List.length_nil];simp only at hi
    omega
   ·show (Gs.put _ _).ns.length≤_
    rw [mD,aO]
    show (dG a d s.tl).st.ns.length+1≤_
    omega
theorem wP (a:Bool):∀ (m:Nat) (r:Gl),tl (dL a m r).pc≤tl r.pc+m * 60∧(dL a m r).st.ns.length≤r.st.ns.length+m * 4∧(dL a m r).ix.length=r.ix.length+m
 | 0,r=>⟨by rw [dL];omega,by rw [dL];omega,rfl⟩
 | m+1,r=>by
  rw [dL];obtain⟨b,c⟩:∃ b,b=if r.ix=[] then r.st else aM a r.st:=⟨_,rfl⟩
  have d:b.ns=r.st.ns:=by rw [c];split;rfl;exact aO a r.st
  obtain⟨g,e⟩:∃ g:Bs,g=if r.ix=[] then [] else dQ a r.st:=⟨_,rfl⟩
  have h:g.length≤8:=by rw [e];split;(exact amN _);exact nL a r.st
  simp only [← c,← e];obtain⟨h1,h2⟩:=uz a 2 b.tl;have h2:(dG a 2 b.tl).st.ns.length≤r.st.ns.length+3:=by rw [← d];exact h2
  have h3:=Vt a (dG a 2 b.tl).st (dG a 2 b.tl).pc;have h4:=kF b.nx
  have i:tl (if r.ix=[] then ((g,1,dD b.nx) :: gu [58] :: eO.on (dQ a (dG a 2 b.tl).st) (dG a 2 b.tl).pc:eO) else gu [44] :: (g,1,dD b.nx) :: gu [58] :: eO.on (dQ a (dG a 2 b.tl).st) (dG a 2 b.tl).pc)≤60:=by
   split
   ·rw [eu,jM];simp only [amV];omega
   ·rw [jM,eu,jM];simp only [amV];omega
  have f:=wP a m ⟨r.pc ++ (if r.ix=[] then ((g,1,dD b.nx) :: gu [58] :: eO.on (dQ a (dG a 2 b.tl).st) (dG a 2 b.tl).pc:eO) else gu [44] :: (g,1,dD b.nx) :: gu [58] :: eO.on (dQ a (dG a 2 b.tl).st) (dG a 2 b.tl).pc),r.ix ++ [(aM a (dG a 2 b.tl).st).id],(aM a (dG a 2 b.tl).st).put ⟨34,dD b.nx,0,[(dG a 2 b.tl).ix],0⟩⟩;simp only [gN,amQ,amV,mD,aO] at f
  obtain⟨j,k,l⟩:=f;exact⟨by omega,by omega,by omega⟩
theorem lb4:Lb 4=10548:=rfl
theorem cb4:Cb 4=681:=rfl
theorem lb3:Lb 3=2612:=rfl
theorem cb3:Cb 3=169:=rfl
theorem Ce (q:Nat)(h:q≤8):(sg mV q).length≤6:=by
 have:∀ g ∈ mV,g.length≤6:=by decide
 exact this _ (wh mV _ (by show q < 9;omega))
theorem aaq (a:Bool)(q:Nat)(i:q≤8)(s:Gs):tl (sw a q s).pc≤11000∧(sw a q s).st.ns.length≤s.ns.length+800:=by
 unfold sw;simp only
 obtain⟨m,f⟩:∃ m,m=if q=7 then 0 else if q=8 then 1+s.nx % 4 else 1:=⟨_,rfl⟩
 have e:m≤4:=by rw [f];split;omega;split <;> omega
 obtain⟨b,c⟩:∃ b,b=if q=8 then s.tl else s:=⟨_,rfl⟩
 have g:b.ns=s.ns:=by rw [c];split <;> rfl
 rw [← f,← c];obtain⟨l1,d,_⟩:=wL a (l7 a 3) m ⟨[],[],b⟩;rw [iX,lb3] at l1
 rw [cb3] at d
 have d:(eP a (dx a 3) m ⟨[],[],b⟩).st.ns.length≤s.ns.length+m * 169:=by rw [← g];exact d
 have l:m * (2612+9)≤4 * (2612+9):=Nat.mul_le_mul_right _ e;have n:m * 169≤4 * 169:=Nat.mul_le_mul_right _ e;have k:=nL a (eP a (dx a 3) m ⟨[],[],b⟩).st;have j:=Ce q i;have h:=Kj [32] (eP a (dx a 3) m ⟨[],[],b⟩).pc
 refine⟨?_,?_⟩
 ·show tl (_ :: _ :: eO.on [32] _)≤_
  rw [eu,eu];simp only [List.length_cons,List.length_nil] at h ⊢
  omega
 ·show (Gs.put _ _).ns.length≤_
  rw [mD,aO];omega
theorem Tj (n:Int)(h1:-140 < n)(h2:n < 140)(s:Gs):tl (eT n s).pc≤4∧(eT n s).st.ns.length=s.ns.length+1:=⟨OZ n h1 h2,mD _ _⟩
theorem aff (s:Gs):rX s≤8:=by unfold rX;split <;> omega
theorem aec (a:Bool)(s:Gs):tl (gI a s).pc≤11990∧(gI a s).st.ns.length≤s.ns.length+900:=by
 unfold gI;simp only
 generalize y:s.tl.tl=c
 have l:c.ns=s.ns:=by rw [← y];rfl
 rw [← l];have H:=kF s.tl.nx
 generalize dD s.tl.nx=x at *
 have d:=nL a;split
 ·unfold rH;simp only
  obtain⟨low,g⟩:∃ low:Int,low=((c.nx % 30:Nat):Int) - 15:=⟨_,rfl⟩;rw [← g];obtain⟨k,w⟩:∃ k,k=(eT low c.tl).st.nx % 12:=⟨_,rfl⟩;rw [← w];have h1:=Tj low (by omega) (by omega) c.tl;have h2:=Tj (low+(k:Int)) (by omega) (by omega) (eT low c.tl).st.tl;have u:(eT low c.tl).st.ns.length=c.ns.length+1:=h1.2;have v:(eT (low+(k:Int)) (eT low c.tl).st.tl).st.ns.length=(eT low c.tl).st.ns.length+1:=h2.2;have E:=Vt a (eT (low+(k:Int)) (eT low c.tl).st.tl).st (eT low c.tl).pc;have I:=Vt a (aM a (aM a (eT (low+(k:Int)) (eT low c.tl).st.tl).st)) (eT (low+(k:Int)) (eT low c.tl).st.tl).pc;have i:=d (aM a (eT (low+(k:Int)) (eT low c.tl).st.tl).st);unfold d9
  refine⟨?_,?_⟩
  ·simp only [eu,jM,gN,List.length_cons,List.length_nil];omega
  ·show (Gs.put _ _).ns.length≤_
   rw [mD,aO,aO,aO];omega
 split
 ·unfold Ig d9;simp only
  obtain⟨l1,e,_⟩:=wP a (1+c.nx % 6) ⟨[],[],c.tl⟩;rw [iX] at l1
  have e:(dL a (1+c.nx % 6) ⟨[],[],c.tl⟩).st.ns.length≤c.ns.length+(1+c.nx % 6) * 4:=e
  refine⟨?_,?_⟩
  ·simp only [eu,jM,gN,iX,List.length_cons,List.length_nil];omega
  ·show (Gs.put _ _).ns.length≤_
   rw [mD];omega
 split
 ·unfold IL d9;simp only
  obtain⟨l1,e,_⟩:=wP a (c.nx % 5) ⟨[],[],c.tl⟩;rw [iX] at l1
  have e:(dL a (c.nx % 5) ⟨[],[],c.tl⟩).st.ns.length≤c.ns.length+(c.nx % 5) * 4:=e;have j:c.nx % 5 < 5:=Nat.mod_lt _ (by decide)
  generalize c.nx % 5=m at l1 e j ⊢
  generalize dL a m ⟨[],[],c.tl⟩=r at l1 e ⊢
  obtain⟨C,D⟩:=uz a 2 r.st
  generalize dG a 2 r.st=t at C D ⊢
  have A:=aff t.st
  generalize rX t.st=n at A ⊢
  obtain⟨f,h⟩:∃ f,f=if 0 < n then aM a t.st.tl else t.st.tl:=⟨_,rfl⟩
  have q:f.ns=t.st.ns:=by rw [h];split;(rw [aO];rfl);rfl
  have B:tl (if 0 < n then ([([32],3,[117,112,116,111]),(dQ a t.st.tl,2,Go.Lib.itoa (n:Int))]:eO) else [])≤20:=by
   split
   ·have hi:=wK ⟨n,by omega⟩;have i:=d t.st.tl;simp only at hi
    rw [eu,eu,iX];simp only [List.length_cons,List.length_nil];omega
   ·rw [iX];omega
  rw [← h];have b1:=(l7 a 4).text f;have b2:=(l7 a 4).nodes f;rw [lb4] at b1
  rw [cb4,q] at b2
  generalize dx a 4 f=b at b1 b2 ⊢
  have i:=d b.st;have F:=d (aM a b.st);have G:=d (aM a (aM a b.st))
  refine⟨?_,?_⟩
  ·simp only [eu,jM,gN,iX,List.length_cons,List.length_nil];omega
  ·show (Gs.put _ _).ns.length≤_
   rw [mD,aO,aO,aO];omega
 split
 ·unfold qG d9;simp only
  have b1:=(l7 a 4).text c;have b2:=(l7 a 4).nodes c;rw [lb4] at b1
  rw [cb4] at b2
  have E:=Vt a (dx a 4 c).st (dx a 4 c).pc
  refine⟨?_,?_⟩
  ·simp only [eu,jM,List.length_cons,List.length_nil];omega
  ·show (Gs.put _ _).ns.length≤_
   rw [mD,aO];omega
 split
 ·unfold qJ d9;simp only
  have b1:=(l7 a 4).text c;have b2:=(l7 a 4).nodes c;rw [lb4] at b1
  rw [cb4] at b2
  have i:=d (dx a 4 c).st
  refine⟨?_,?_⟩
  ·simp only [eu,List.length_cons,List.length_nil];omega
  ·show (Gs.put _ _).ns.length≤_
   rw [mD,aO];omega
 split
 ·unfold qN d9;have i:=d c
  refine⟨?_,?_⟩
  ·simp only [eu,iX,List.length_cons,List.length_nil];omega
  ·show (Gs.put _ _).ns.length≤_
   rw [mD,aO];omega
 ·obtain⟨h1,h2⟩:=aaq a (1+c.nx % 8) (by omega) c.tl;have h2:(sw a (1+c.nx % 8) c.tl).st.ns.length≤c.ns.length+800:=h2;exact⟨by omega,by omega⟩
theorem OD (a:Bool)(s:Gs):tl (iF a s).pc≤12000∧(iF a s).st.ns.length≤s.ns.length+900:=by
 obtain⟨h1,h2⟩:=aec a s;unfold iF;simp only
 refine⟨?_,by rw [aO];exact h2⟩
 have c:(iY s).length≤1:=by unfold iY;split <;> simp
 have b:=nL a (gI a s).st;rw [gN,eu,iX,amQ];simp only [List.length_cons,List.length_nil];omega
end Mist
namespace Go.Proofs.YtalghggmkojblaaGreatDoor
open Go.RowKit Mist
attribute [local go_sem] ak aN aV aF aj
def KC (wild:Bool)(d N:Nat):Prop:=∀ (g:Nat) (iv:Value) (w:World) (s:Gs) (xs:List NV) (nv lv:Value),PL g wild iv w s xs nv lv→s.ns.length≤N →
 Calls Tryz.prog 32 #[.pointer (some ⟨g,0,none⟩),.int .i64 (d:Int)] w (mF g wild iv w xs nv (dG wild d s))
theorem abA (a:Bool)(d:Int)(g:Nat)(iv:Value)(w:World)(s:Gs)(t:s.nx % 4=0)  (xs:List NV)(nv lv:Value)(h:PL g a iv w s xs nv lv)(r:s.ns.length≤900000) :
  Calls Tryz.prog 32 #[.pointer (some ⟨g,0,none⟩),.int .i64 d] w (mF g a iv w xs nv (d9 [([],3,[105,110,116])] s.tl ⟨30,[],0,[],0⟩)):=by
 have b:=O h;have c:=O (Gw.refl (g:=g) (w:=w) (xs:=xs) (nv:=nv));clear h;have l:s.tl.ns.length=s.ns.length:=rfl;have q:Int.tmod (s.nx:Int) 4=0:=by rw [Int.tmod_eq_emod_of_nonneg (by omega)];omega
 go_in
 go_wp2_with fail;refine (fD g a _ _ (s) _ _ _ b.o).mono ?_;rintro e w1⟨rfl,u,h,m⟩;have f:=O h;have j:=O (c.o.IZ m);clear h m b c;go_wp2_with fail;refine (iD g a _ _ ((s).tl) _ _ _ f.o 30 [] 0 _ [] (dw.none_ _) (by first | omega|(simp only [aO,eH];omega))).mono ?_;rintro e v⟨rfl,n,h,m⟩;have i:=O h;have k:=O (j.o.vW (x:=(⟨30,[],0,[],0⟩,(.slice none 0 0))) m pX);clear h m;go_wp2_with fail;go_ret2
 refine⟨?_,_,_,_,i.o,k.o⟩
 show _=Ending.returned (.tuple #[.string (aG (ah [([],3,[105,110,116])])),.int .i64 ((s).tl).id])
 rw [mg];rfl
theorem Vb (a:Bool)(d:Int)(g:Nat)(iv:Value)(w:World)(s:Gs)(t:s.nx % 4=1)  (xs:List NV)(nv lv:Value)(h:PL g a iv w s xs nv lv)(r:s.ns.length≤900000) :
  Calls Tryz.prog 32 #[.pointer (some ⟨g,0,none⟩),.int .i64 d] w (mF g a iv w xs nv (d9 [([],3,[98,111,111,108])] s.tl ⟨31,[],0,[],0⟩)):=by
 have b:=O h;have c:=O (Gw.refl (g:=g) (w:=w) (xs:=xs) (nv:=nv));clear h;have l:s.tl.ns.length=s.ns.length:=rfl;have q:Int.tmod (s.nx:Int) 4=1:=by rw [Int.tmod_eq_emod_of_nonneg (by omega)];omega
 go_in
 go_wp2_with fail;refine (fD g a _ _ (s) _ _ _ b.o).mono ?_;rintro e w1⟨rfl,u,h,m⟩;have f:=O h;have j:=O (c.o.IZ m);clear h m b c;go_wp2_with fail;refine (iD g a _ _ ((s).tl) _ _ _ f.o 31 [] 0 _ [] (dw.none_ _) (by first | omega|(simp only [aO,eH];omega))).mono ?_;rintro e v⟨rfl,n,h,m⟩;have i:=O h;have k:=O (j.o.vW (x:=(⟨31,[],0,[],0⟩,(.slice none 0 0))) m pX);clear h m;go_wp2_with fail;go_ret2
 refine⟨?_,_,_,_,i.o,k.o⟩
 show _=Ending.returned (.tuple #[.string (aG (ah [([],3,[98,111,111,108])])),.int .i64 ((s).tl).id])
 rw [mg];rfl
theorem Vd (a:Bool)(d:Int)(g:Nat)(iv:Value)(w:World)(s:Gs)(t:s.nx % 4=2)  (xs:List NV)(nv lv:Value)(h:PL g a iv w s xs nv lv)(r:s.ns.length≤900000) :
  Calls Tryz.prog 32 #[.pointer (some ⟨g,0,none⟩),.int .i64 d] w (mF g a iv w xs nv (d9 [([],1,dD s.nx)] s.tl ⟨32,(dD s.nx),0,[],0⟩)):=by
 have b:=O h;have c:=O (Gw.refl (g:=g) (w:=w) (xs:=xs) (nv:=nv));clear h;have l:s.tl.ns.length=s.ns.length:=rfl;have q:Int.tmod (s.nx:Int) 4=2:=by rw [Int.tmod_eq_emod_of_nonneg (by omega)];omega
 go_in
 go_wp2_with fail;refine (fD g a _ _ (s) _ _ _ b.o).mono ?_;rintro e w1⟨rfl,u,h,m⟩;have f:=O h;have j:=O (c.o.IZ m);clear h m b c;go_wp2_with fail;refine (jk (s.nx) _).mono ?_;rintro e v⟨rfl,rfl⟩;go_wp2_with fail;refine (jk (s.nx) _).mono ?_;rintro e y⟨rfl,rfl⟩;go_wp2_with fail;refine (iD g a _ _ ((s).tl) _ _ _ f.o 32 (dD s.nx) 0 _ [] (dw.none_ _) (by first | omega|(simp only [aO,eH];omega))).mono ?_;rintro e A⟨rfl,n,h,m⟩;have i:=O h;have k:=O (j.o.vW (x:=(⟨32,(dD s.nx),0,[],0⟩,(.slice none 0 0))) m pX);clear h m;go_wp2_with fail;go_ret2
 refine⟨?_,_,_,_,i.o,k.o⟩
 show _=Ending.returned (.tuple #[.string (aG (ah [([],1,dD s.nx)])),.int .i64 ((s).tl).id])
 rw [mg];rfl
theorem abB (a:Bool)(d:Int)(g:Nat)(iv:Value)(w:World)(s:Gs)(t:s.nx % 4=3)(hd:d=0)  (xs:List NV)(nv lv:Value)(h:PL g a iv w s xs nv lv)(r:s.ns.length≤900000) :
  Calls Tryz.prog 32 #[.pointer (some ⟨g,0,none⟩),.int .i64 d] w (mF g a iv w xs nv (d9 [([],1,dD s.nx)] s.tl ⟨32,(dD s.nx),0,[],0⟩)):=by
 have b:=O h;have c:=O (Gw.refl (g:=g) (w:=w) (xs:=xs) (nv:=nv));clear h;have l:s.tl.ns.length=s.ns.length:=rfl;have q:Int.tmod (s.nx:Int) 4=3:=by rw [Int.tmod_eq_emod_of_nonneg (by omega)];omega
 subst hd;go_in
 go_wp2_with fail;refine (fD g a _ _ (s) _ _ _ b.o).mono ?_;rintro e w1⟨rfl,u,h,m⟩;have f:=O h;have j:=O (c.o.IZ m);clear h m b c;go_wp2_with fail;refine (jk (s.nx) _).mono ?_;rintro e v⟨rfl,rfl⟩;go_wp2_with fail;refine (jk (s.nx) _).mono ?_;rintro e y⟨rfl,rfl⟩;go_wp2_with fail;refine (iD g a _ _ ((s).tl) _ _ _ f.o 32 (dD s.nx) 0 _ [] (dw.none_ _) (by first | omega|(simp only [aO,eH];omega))).mono ?_;rintro e A⟨rfl,n,h,m⟩;have i:=O h;have k:=O (j.o.vW (x:=(⟨32,(dD s.nx),0,[],0⟩,(.slice none 0 0))) m pX);clear h m;go_wp2_with fail;go_ret2
 refine⟨?_,_,_,_,i.o,k.o⟩
 show _=Ending.returned (.tuple #[.string (aG (ah [([],1,dD s.nx)])),.int .i64 ((s).tl).id])
 rw [mg];rfl
theorem aej (b:Bool)(d N:Nat)(hN:N≤900000)(hd2:d≤2)(X:KC b d (N+10))(g:Nat)(iv:Value)(w:World)(s:Gs)(xs:List NV)(nv lv:Value)(h:PL g b iv w s xs nv lv)(hn:s.ns.length≤N)(hr:s.nx % 4=3) :
  Calls Tryz.prog 32 #[.pointer (some ⟨g,0,none⟩),.int .i64 ((d:Int)+1)] w (mF g b iv w xs nv (dG b (d+1) s)):=by
 have K:=O h;have Q:=O (Gw.refl (g:=g) (w:=w) (xs:=xs) (nv:=nv));clear h;have hsn:s.tl.ns.length=s.ns.length:=rfl;have Jy:Int.tmod (s.nx:Int) 4=3:=by rw [Int.tmod_eq_emod_of_nonneg (by omega)];omega
 have zd0:¬ ((d:Int)+1≤0):=by omega
 have zd:IntKind.i64.wrap ((d:Int)+1 - 1)=(d:Int):=by rw [Int.add_sub_cancel];exact IntWalk.i64_in _ ⟨by omega,by omega⟩
 have D:=O X;have C:=O (show ∀ z,tl (dG b d z).pc≤100∧(dG b d z).st.ns.length≤z.ns.length+(d+1) from fun z=>⟨Nat.le_trans (uz b d z).1 (by omega),(uz b d z).2⟩);clear X;go_in
 go_wp2_with fail;refine (fD g b _ _ (s) _ _ _ K.o).mono ?_;rintro e w1⟨rfl,oH,h,m⟩;have L:=O h;have R:=O (Q.o.IZ m);clear h m K Q;go_wp2_with fail;refine (D.o g _ _ (s.tl) _ _ _ L.o (by first | omega|(simp only [aO];omega))).mono ?_;rintro e w2⟨rfl,xs2,Cx,EW,h,m⟩;have y:=O h;have S:=O (R.o.trans m);clear h m L R;obtain⟨j,r⟩:=C.o (s.tl);obtain⟨c,l⟩:∃ a,a=dG b d (s.tl):=⟨_,rfl⟩;rw [← l] at y j r ⊢
 obtain⟨i,u⟩:∃ T,T=ah c.pc:=⟨_,rfl⟩;have tl2:i.length≤100:=by rw [u];exact j
 rw [← u];have B:=O l;have E:=O u;clear l u j
 (try simp only [aO] at r)
 obtain⟨q,J⟩:∃ q,q=c.st.nx % 6:=⟨_,rfl⟩;have zq:Int.tmod (c.st.nx:Int) 6=(q:Int):=by rw [Int.tmod_eq_emod_of_nonneg (by omega),J];omega
 have HQ:=O J;have hq6:q≤5:=by omega
 clear J;have zq1:IntKind.i64.wrap (1+(q:Int))=((1+q:Nat):Int):=by rw [IntWalk.i64_in _ (by omega)];omega
 have t:=wK ⟨1+q,by omega⟩;simp only at t
 go_wp2_with fail;refine (fD g b _ _ (c.st) _ _ _ y.o).mono ?_;rintro e w3⟨rfl,XH,h,m⟩;have M:=O h;have V:=O (S.o.IZ m);clear h m y S;have al5:c.st.tl.ns.length=c.st.ns.length:=rfl;go_wp2_with fail;refine (iC g b _ _ (c.st.tl) _ _ _ M.o).mono ?_;rintro e w4⟨rfl,Tc,h,m⟩;have A:=O h;have W:=O (V.o.IZ m);clear h m M V;have Zb:=iR b (c.st.tl);obtain⟨f,k⟩:∃ G,G=dQ b (c.st.tl):=⟨_,rfl⟩;rw [← k] at Zb ⊢
 have Kz:=O k;clear k;go_wp2_with fail;refine (uD (((1+q:Nat):Int)) (by omega) (by omega) g b _ _ (aM b (c.st.tl)) _ _ _ A.o).mono ?_;rintro e Z⟨rfl,n⟩;have P:=O (A.o.below n);have F:=O (W.o.o_ n);clear n A W;obtain⟨U,H⟩:∃ U,U=Go.Lib.itoa ((1+q:Nat):Int):=⟨_,rfl⟩;rw [← H] at t ⊢
 have HU:=O H;clear H;have NQ:¬ 9223372036854775807 < 1+i.length:=by omega
 have NR:¬ 9223372036854775807 < 1+i.length+f.length:=by omega
 have Qt:¬ 9223372036854775807 < 1+i.length+f.length+1:=by omega
 have RN:¬ 9223372036854775807 < 1+i.length+f.length+1+U.length:=by omega
 have cq4:¬ 9223372036854775807 < 1+i.length+f.length+1+U.length+1:=by omega
 have KR:=O (rP Z [c.ix]);have HK:=O (P.o.alloc (.cells (intCells [c.ix]).toArray 3));have MK:=O (F.o.gT (o:=.cells (intCells [c.ix]).toArray 3));have I:=F.o.size;clear P F;go_wp2_with fail;obtain⟨Y,v⟩:∃ Y:Bs,Y=[91] ++ i ++ f ++ [59] ++ U ++ [93]:=⟨_,rfl⟩;rw [show (⟨#[91]⟩:ByteArray) ++ aG (i) ++ aG (f) ++ (⟨#[59]⟩:ByteArray) ++ aG (U) ++ (⟨#[93]⟩:ByteArray)=aG Y from by rw [v] <;> (simp only [← aj];rfl)];have lY:Y.length≤10000000:=by rw [v];simp only [amQ,List.length_cons,List.length_nil];omega
 have HY:=O v;clear v;refine (iD g b _ _ (aM b (c.st.tl)) _ _ _ HK.o 33 [] ((1+q:Nat):Int) _ [c.ix] KR.o (by first | omega|(simp only [aO,eH];omega))).mono ?_;rintro e w6⟨rfl,Tn,h,m⟩;have H6:=O h;have M6:=O (MK.o.vW (x:=(⟨33,[],((1+q:Nat):Int),[c.ix],0⟩,(.slice (some ⟨Z.heap.size,0,none⟩) 1 1))) m (Jv I));clear h m;go_wp2_with fail;go_ret2
 have HF:=O (show dG b (d+1) s=d9 (gu [91] :: (c.pc ++ [(f,4,[59]),([],2,U),gu [93]])) (aM b (c.st.tl)) ⟨33,[],((1+q:Nat):Int),[c.ix],0⟩ from by
  rw [dG,if_neg (by omega),if_neg (by omega),if_neg (by omega)];simp only
  rw [← B.o,← Kz.o,← HQ.o,← HU.o])
 rw [HF.o]
 refine⟨?_,_,_,_,H6.o,M6.o⟩
 show _=Ending.returned (.tuple #[.string (aG (ah (gu [91] :: (c.pc ++ [(f,4,[59]),([],2,U),gu [93]])))),.int .i64 (aM b (c.st.tl)).id])
 have HI:=(show ah (gu [91] :: (c.pc ++ [(f,4,[59]),([],2,U),gu [93]]))=Y from by
  simp only [ah,aX,gu];rw [HY.o,E.o];simp only [List.nil_append,List.append_nil,List.append_assoc,List.cons_append])
 rw [HI];rfl
theorem XE (a:Bool)(N:Nat)(b:N≤900000):KC a 0 N:=by
 intro g iv w s xs nv lv h c;by_cases h0:s.nx % 4=0
 ·rw [show dG a 0 s=d9 [([],3,[105,110,116])] s.tl ⟨30,[],0,[],0⟩ by rw [dG,if_pos h0]];exact abA a _ g iv w s h0 xs nv lv h (by omega)
 by_cases h1:s.nx % 4=1
 ·rw [show dG a 0 s=d9 [([],3,[98,111,111,108])] s.tl ⟨31,[],0,[],0⟩ by rw [dG,if_neg h0,if_pos h1]];exact Vb a _ g iv w s h1 xs nv lv h (by omega)
 rw [show dG a 0 s=d9 [([],1,dD s.nx)] s.tl ⟨32,dD s.nx,0,[],0⟩ by rw [dG,if_neg h0,if_neg h1]];by_cases h2:s.nx % 4=2
 ·exact Vd a _ g iv w s h2 xs nv lv h (by omega)
 ·exact abB a _ g iv w s (by omega) rfl xs nv lv h (by omega)
theorem JI (a:Bool)(d N:Nat)(e:N≤900000)(b:d≤2)(c:KC a d (N+10)):KC a (d+1) N:=by
 intro g iv w s xs nv lv h f;by_cases h0:s.nx % 4=0
 ·rw [show dG a (d+1) s=d9 [([],3,[105,110,116])] s.tl ⟨30,[],0,[],0⟩ by rw [dG,if_pos h0]];exact abA a _ g iv w s h0 xs nv lv h (by omega)
 by_cases h1:s.nx % 4=1
 ·rw [show dG a (d+1) s=d9 [([],3,[98,111,111,108])] s.tl ⟨31,[],0,[],0⟩ by rw [dG,if_neg h0,if_pos h1]];exact Vb a _ g iv w s h1 xs nv lv h (by omega)
 by_cases h2:s.nx % 4=2
 ·rw [show dG a (d+1) s=d9 [([],1,dD s.nx)] s.tl ⟨32,dD s.nx,0,[],0⟩ by rw [dG,if_neg h0,if_neg h1,if_pos h2]];exact Vd a _ g iv w s h2 xs nv lv h (by omega)
 ·exact aej a d N e b c g iv w s xs nv lv h f (by omega)
theorem vS (a:Bool):KC a 2 800000:=JI a 1 _ (by omega) (by omega) (JI a 0 _ (by omega) (by omega) (XE a _ (by omega)))
theorem LV (d:Bool)(N:Nat)(hN:N≤700000)(m:Nat)(hm:m≤6)(g:Nat)(iv:Value)(w:World)(s:Gs)(xs:List NV)(nv lv:Value)(h:PL g d iv w s xs nv lv)(hn:s.ns.length≤N) :
  Calls Tryz.prog 31 #[.pointer (some ⟨g,0,none⟩),.int .i64 (m:Int)] w (Rt g d iv w xs nv (dL d m ⟨[],[],s⟩)):=by
 have D:=O h;have P:=O (Gw.refl (g:=g) (w:=w) (xs:=xs) (nv:=nv));clear h;obtain⟨j0,hj0,hy0,hy1,hy2⟩:=info_parts jq;have hg0:=D.o.lt;have HKC:=O (vS d);have HKB:=O (show ∀ z,tl (dG d 2 z).pc≤100∧(dG d 2 z).st.ns.length≤z.ns.length+3 from fun z=>⟨Nat.le_trans (uz d 2 z).1 (by omega),(uz d 2 z).2⟩);have Qq:=O (LG.empty (w0:=w) D.o rfl (amL _));have HH:=O (D.o.alloc (.cells #[] 3));have MM:=O (P.o.gT (o:=.cells #[] 3));clear D P;go_in
 go_wp2_with fail;go_loopw [6,7,8] (fun sv l0 i wr=>∃ (k:Nat) (r:Gl) (A:Option Addr) (c:Nat) (H:List NV) (ji oH:Value),k≤m∧i=.int .i64 k∧sv=.string (aG (ah r.pc))∧l0=.slice A r.ix.length c∧Hid (r.ix.length=k)∧(ah r.pc).length≤k * 200∧r.st.ns.length≤N+k * 10∧Hid (dL d (m - k) r=dL d m ⟨[],[],s⟩)∧Hid (LG w wr H (.slice A r.ix.length c) r.ix)∧Hid (PL g d iv wr r.st H ji oH)∧Hid (Gw g w xs nv wr H ji)) (fun _ _ i _=>m - (intOf i).toNat)
 case atStart=>exact⟨0,⟨[],[],s⟩,_,_,xs,nv,lv,amN _,rfl,rfl,rfl,O rfl,by simp [ah],(by first|(simpa using hn)|(show s.tl.ns.length≤_;omega)),O rfl,Qq,HH,MM⟩
 case round =>
  clear Qq HH MM;obtain⟨wo,rfl⟩:∃ wo:World,wo=wr:=⟨_,rfl⟩;obtain⟨k,r,A,c,H,ji,lv9,hk,rfl,rfl,rfl,C,hlen,hnl,HR,j,D,P⟩:=hrel;by_cases L:k < m
  ·obtain⟨mm,hmm⟩:∃ mm,m - k=mm+1:=⟨m - k - 1,by omega⟩;have Oq:m - (k+1)=mm:=by omega
   rw [hmm] at HR
   have xu:=O Oq;clear hmm Oq;obtain⟨X,hX⟩:∃ X,X=ah r.pc:=⟨_,rfl⟩;rw [← hX] at hlen ⊢
   have HX9:=O hX;clear hX;by_cases hk0:k=0
   ·subst hk0;have Q:r.ix=[]:=List.eq_nil_of_length_eq_zero C.o;have I:=O (show dL d (mm+1) r=dL d mm ⟨r.pc ++ (([],1,dD r.st.nx) :: gu [58] :: eO.on (dQ d (dG d 2 r.st.tl).st) (dG d 2 r.st.tl).pc),r.ix ++ [(aM d (dG d 2 r.st.tl).st).id],(aM d (dG d 2 r.st.tl).st).put ⟨34,dD r.st.nx,0,[(dG d 2 r.st.tl).ix],0⟩⟩ by rw [dL];simp only [if_pos Q]);clear Q;go_wp2_with fail;refine (fD g d _ _ (r.st) _ _ _ D.o).mono ?_;rintro e w1⟨rfl,oH,h,m⟩;have R:=O h;have M1:=O (P.o.IZ m)
    replace j:=O (j.o.mv D.o m)
    clear h m D P;go_wp2_with fail;refine (jk (r.st).nx _).mono ?_;rintro e w99⟨rfl,rfl⟩;have ly:=kF (r.st).nx;obtain⟨y,hy⟩:∃ y,y=dD (r.st).nx:=⟨_,rfl⟩;rw [← hy] at ly I ⊢
    clear hy;have hs0:(r.st).tl.ns.length=r.st.ns.length:=rfl;have E:=O fun u=>BM (qV d 2 (r.st).tl) u
    go_wp2_with fail;refine (HKC.o g _ _ ((r.st).tl) _ _ _ R.o (by first | omega|(simp only [aO];omega))).mono ?_;rintro e w2⟨rfl,xs2,Cx,EW,h,m⟩;have M:=O h;have M2:=O (M1.o.trans m)
    replace j:=O (j.o.mw R.o m)
    clear h m R M1;obtain⟨bt2,bn2⟩:=HKB.o ((r.st).tl);obtain⟨l,ha2⟩:∃ a,a=dG d 2 ((r.st).tl):=⟨_,rfl⟩;rw [← ha2] at M bt2 bn2 ⊢
    obtain⟨T2,U6⟩:∃ T,T=ah l.pc:=⟨_,rfl⟩;have tl2:T2.length≤100:=by rw [U6];exact bt2
    rw [← U6];have HA2:=O ha2;have HT2:=O U6;clear ha2 U6 bt2
    (try simp only [aO] at bn2)
    rw [← HA2.o] at I E
    have ca0:¬ 9223372036854775807 < X.length+y.length:=by omega
    have ca1:¬ 9223372036854775807 < X.length+y.length+1:=by omega
    go_wp2_with fail;refine (iC g d _ _ (l.st) _ _ _ M.o).mono ?_;rintro e w3⟨rfl,XH,h,m⟩;have S:=O h;have M3:=O (M2.o.IZ m)
    replace j:=O (j.o.mv M.o m)
    clear h m M M2;have Za:=iR d (l.st);obtain⟨G3,hG3⟩:∃ G,G=dQ d (l.st):=⟨_,rfl⟩;rw [← hG3] at Za ⊢
    have HG3:=O hG3;clear hG3;clear ca0 ca1;rw [← HG3.o] at I
    have cb0:¬ 9223372036854775807 < X.length+y.length:=by omega
    have cb1:¬ 9223372036854775807 < X.length+y.length+1:=by omega
    have cb2:¬ 9223372036854775807 < X.length+y.length+1+G3.length:=by omega
    have cb3:¬ 9223372036854775807 < X.length+y.length+1+G3.length+T2.length:=by omega
    have Fv:=O (j.o.apart (n:=1) (c:=1) (amL _))
    replace j:=O (j.o.alloc (.cells (intCells [l.ix]).toArray 3))
    have KR:=O (rP w3 [l.ix]);have HK:=O (S.o.alloc (.cells (intCells [l.ix]).toArray 3));have MK:=O (M3.o.gT (o:=.cells (intCells [l.ix]).toArray 3));have t:=M3.o.size;clear S M3;go_wp2_with fail;obtain⟨Y,K⟩:∃ Y:Bs,Y=X ++ y ++ [58] ++ G3 ++ T2:=⟨_,rfl⟩;rw [show aG (X ++ y) ++ (⟨#[58]⟩:ByteArray) ++ aG (G3) ++ aG (T2)=aG Y from by rw [K] <;> (simp only [← aj];rfl)];have lY:Y.length≤10000000:=by rw [K];simp only [amQ,List.length_cons,List.length_nil];omega
    have HY:=O K;clear K;refine (iD g d _ _ (aM d (l.st)) _ _ _ HK.o 34 y 0 _ [l.ix] KR.o (by first | omega|(simp only [aO,eH];omega))).mono ?_;rintro e w4⟨rfl,Ed,h,m⟩
    replace j:=O (j.o.put HK.o h m Fv.o)
    have H4:=O h;have M4:=O (MK.o.vW (x:=(⟨34,y,0,[l.ix],0⟩,(.slice (some ⟨w3.heap.size,0,none⟩) 1 1))) m (Jv t));clear h m;have B:=O (j.o.alloc (.cells #[.int .i64 (Gs.id (aM d (l.st)))] 3));have V:=O (H4.o.alloc (.cells #[.int .i64 (Gs.id (aM d (l.st)))] 3));have MA:=O (M4.o.gT (o:=(.cells #[.int .i64 (Gs.id (aM d (l.st)))] 3)));have t:=MA.o.size;have hrl:r.ix.length≤6:=by have:=C.o;omega
    go_wp2_with (at_builtin;go_loud (refine wpList_append_lies _ rfl (.tmp 42) (.tmp 49) 26 rfl 0 3 j0 (.int .i64 0) 1 8 Tryz.underlying26 hj0 hy0 hy1 hy2 rfl (by decide) _ r.ix.length (intCells r.ix) rfl B.o.row ⟨w4.heap.size,0,none⟩ 1 1 [.int .i64 (Gs.id (aM d (l.st)))] rfl rfl (cell_one_new _ _ _) (by simp [Value.oneCell']) (by omega) (by simp only [maxLen];omega) (by omega) (amN _) _ rfl ?_);intro Sc FQ x9 v f F L;have W:=O (B.o.grow V.o v F t);have U:=O (V.o.grow B.o f (fun b hb=>amM (amY hg0 (B.o.lo b hb))));have M33:=O (MA.o.grow B.o f);clear v f F L)
    clear B V MA t j H4 M4;have xM:=O (show Y=ah (r.pc ++ (([],1,y) :: gu [58] :: eO.on G3 l.pc)) by rw [aX,HY.o,← HX9.o];simp only [ah,gu];rw [E.o,HT2.o];simp only [List.nil_append,List.append_nil,List.append_assoc,List.cons_append]);exact⟨⟨0+1,⟨r.pc ++ (([],1,y) :: gu [58] :: eO.on G3 l.pc),r.ix ++ [Gs.id (aM d (l.st))],(aM d (l.st)).put ⟨34,y,0,[l.ix],0⟩⟩,_,_,_,_,_,by omega,by go_num,congrArg Value.string (congrArg aG xM.o),by rw [amQ];rfl,O (by rw [amQ,C.o];rfl),by rw [← xM.o,HY.o];simp only [amQ,List.length_cons,List.length_nil];omega,by show (Gs.put _ _).ns.length≤_;rw [mD,aO];omega,O (by show dL d (m - (0+1)) _=_;rw [xu.o,← I.o,HR.o]),by rw [amQ];exact W,U,M33⟩,by simp [intOf];omega⟩
   ·have hne:r.ix ≠ []:=fun h=>hk0 (by rw [← C.o,h];rfl)
    have I:=O (show dL d (mm+1) r=dL d mm ⟨r.pc ++ (gu [44] :: (dQ d r.st,1,dD (aM d r.st).nx) :: gu [58] :: eO.on (dQ d (dG d 2 (aM d r.st).tl).st) (dG d 2 (aM d r.st).tl).pc),r.ix ++ [(aM d (dG d 2 (aM d r.st).tl).st).id],(aM d (dG d 2 (aM d r.st).tl).st).put ⟨34,dD (aM d r.st).nx,0,[(dG d 2 (aM d r.st).tl).ix],0⟩⟩ by rw [dL];simp only [if_neg hne]);have zk:(0:Int) < (k:Int):=by omega
    clear hne hk0;go_wp2_with fail;refine (iC g d _ _ (r.st) _ _ _ D.o).mono ?_;rintro e w1⟨rfl,oH,h,m⟩;have R:=O h;have M1:=O (P.o.IZ m)
    replace j:=O (j.o.mv D.o m)
    clear h m D P;have gl1:=iR d (r.st);obtain⟨G1,hG1⟩:∃ G,G=dQ d (r.st):=⟨_,rfl⟩;rw [← hG1] at gl1 ⊢
    have HG1:=O hG1;clear hG1;rw [← HG1.o] at I
    have cg0:¬ 9223372036854775807 < 1+G1.length:=by omega
    have cg1:¬ 9223372036854775807 < X.length+(1+G1.length):=by omega
    go_wp2_with fail;obtain⟨Z,hZ⟩:∃ Z:Bs,Z=X ++ ([44] ++ G1):=⟨_,rfl⟩;rw [show (aG X ++ ((⟨#[44]⟩:ByteArray) ++ aG G1))=aG Z from by rw [hZ,← aj,← aj];rfl];have hZl:Z.length≤X.length+9:=by rw [hZ];simp only [amQ,List.length_cons,List.length_nil];omega
    have HZ:=O hZ;clear hZ cg0 cg1;refine (fD g d _ _ (aM d (r.st)) _ _ _ R.o).mono ?_;rintro e w2⟨rfl,EW,h,m⟩;have M:=O h;have M2:=O (M1.o.IZ m)
    replace j:=O (j.o.mv R.o m)
    clear h m R M1;go_wp2_with fail;refine (jk ((aM d r.st)).nx _).mono ?_;rintro e w99⟨rfl,rfl⟩;have ly:=kF ((aM d r.st)).nx;obtain⟨y,hy⟩:∃ y,y=dD ((aM d r.st)).nx:=⟨_,rfl⟩;rw [← hy] at ly I ⊢
    clear hy;have hs0:((aM d r.st)).tl.ns.length=r.st.ns.length:=by show (aM d r.st).ns.length=_;rw [aO]
    have E:=O fun u=>BM (qV d 2 ((aM d r.st)).tl) u
    go_wp2_with fail;refine (HKC.o g _ _ ((aM d (r.st)).tl) _ _ _ M.o (by first | omega|(simp only [aO];omega))).mono ?_;rintro e w3⟨rfl,xs3,Ll,XH,h,m⟩;have S:=O h;have M3:=O (M2.o.trans m)
    replace j:=O (j.o.mw M.o m)
    clear h m M M2;obtain⟨bt3,bn3⟩:=HKB.o ((aM d (r.st)).tl);obtain⟨q,yU⟩:∃ a,a=dG d 2 ((aM d (r.st)).tl):=⟨_,rfl⟩;rw [← yU] at S bt3 bn3 ⊢
    obtain⟨T3,J⟩:∃ T,T=ah q.pc:=⟨_,rfl⟩;have tl3:T3.length≤100:=by rw [J];exact bt3
    rw [← J];have fU:=O yU;have HT3:=O J;clear yU J bt3
    (try simp only [aO] at bn3)
    rw [← fU.o] at I E
    have ca0:¬ 9223372036854775807 < Z.length+y.length:=by omega
    have ca1:¬ 9223372036854775807 < Z.length+y.length+1:=by omega
    go_wp2_with fail;refine (iC g d _ _ (q.st) _ _ _ S.o).mono ?_;rintro e w4⟨rfl,Tc,h,m⟩;have H4:=O h;have M4:=O (M3.o.IZ m)
    replace j:=O (j.o.mv S.o m)
    clear h m S M3;have Zb:=iR d (q.st);obtain⟨G4,hG4⟩:∃ G,G=dQ d (q.st):=⟨_,rfl⟩;rw [← hG4] at Zb ⊢
    have Kz:=O hG4;clear hG4;clear ca0 ca1;rw [← Kz.o] at I
    have cb0:¬ 9223372036854775807 < Z.length+y.length:=by omega
    have cb1:¬ 9223372036854775807 < Z.length+y.length+1:=by omega
    have cb2:¬ 9223372036854775807 < Z.length+y.length+1+G4.length:=by omega
    have cb3:¬ 9223372036854775807 < Z.length+y.length+1+G4.length+T3.length:=by omega
    have Fv:=O (j.o.apart (n:=1) (c:=1) (amL _))
    replace j:=O (j.o.alloc (.cells (intCells [q.ix]).toArray 3))
    have KR:=O (rP w4 [q.ix]);have HK:=O (H4.o.alloc (.cells (intCells [q.ix]).toArray 3));have MK:=O (M4.o.gT (o:=.cells (intCells [q.ix]).toArray 3));have t:=M4.o.size;clear H4 M4;go_wp2_with fail;obtain⟨Y,K⟩:∃ Y:Bs,Y=Z ++ y ++ [58] ++ G4 ++ T3:=⟨_,rfl⟩;rw [show aG (Z ++ y) ++ (⟨#[58]⟩:ByteArray) ++ aG (G4) ++ aG (T3)=aG Y from by rw [K] <;> (simp only [← aj];rfl)];have lY:Y.length≤10000000:=by rw [K];simp only [amQ,List.length_cons,List.length_nil];omega
    have HY:=O K;clear K;refine (iD g d _ _ (aM d (q.st)) _ _ _ HK.o 34 y 0 _ [q.ix] KR.o (by first | omega|(simp only [aO,eH];omega))).mono ?_;rintro e w5⟨rfl,Qx,h,m⟩
    replace j:=O (j.o.put HK.o h m Fv.o)
    have H5:=O h;have M5:=O (MK.o.vW (x:=(⟨34,y,0,[q.ix],0⟩,(.slice (some ⟨w4.heap.size,0,none⟩) 1 1))) m (Jv t));clear h m;have B:=O (j.o.alloc (.cells #[.int .i64 (Gs.id (aM d (q.st)))] 3));have V:=O (H5.o.alloc (.cells #[.int .i64 (Gs.id (aM d (q.st)))] 3));have MA:=O (M5.o.gT (o:=(.cells #[.int .i64 (Gs.id (aM d (q.st)))] 3)));have t:=MA.o.size;have hrl:r.ix.length≤6:=by have:=C.o;omega
    go_wp2_with (at_builtin;go_loud (refine wpList_append_lies _ rfl (.tmp 42) (.tmp 49) 26 rfl 0 3 j0 (.int .i64 0) 1 8 Tryz.underlying26 hj0 hy0 hy1 hy2 rfl (by decide) _ r.ix.length (intCells r.ix) rfl B.o.row ⟨w5.heap.size,0,none⟩ 1 1 [.int .i64 (Gs.id (aM d (q.st)))] rfl rfl (cell_one_new _ _ _) (by simp [Value.oneCell']) (by omega) (by simp only [maxLen];omega) (by omega) (amN _) _ rfl ?_);intro Sc FQ x9 v f F L;have W:=O (B.o.grow V.o v F t);have U:=O (V.o.grow B.o f (fun b hb=>amM (amY hg0 (B.o.lo b hb))));have M33:=O (MA.o.grow B.o f);clear v f F L)
    clear B V MA t j H5 M5;have xM:=O (show Y=ah (r.pc ++ (gu [44] :: (G1,1,y) :: gu [58] :: eO.on G4 q.pc)) by rw [aX,HY.o,HZ.o,← HX9.o];simp only [ah,gu];rw [E.o,HT3.o];simp only [List.nil_append,List.append_nil,List.append_assoc,List.cons_append]);exact⟨⟨k+1,⟨r.pc ++ (gu [44] :: (G1,1,y) :: gu [58] :: eO.on G4 q.pc),r.ix ++ [Gs.id (aM d (q.st))],(aM d (q.st)).put ⟨34,y,0,[q.ix],0⟩⟩,_,_,_,_,_,by omega,by go_num,congrArg Value.string (congrArg aG xM.o),by rw [amQ];rfl,O (by rw [amQ,C.o];rfl),by rw [← xM.o,HY.o];simp only [amQ,List.length_cons,List.length_nil];omega,by show (Gs.put _ _).ns.length≤_;rw [mD,aO];omega,O (by show dL d (m - (k+1)) _=_;rw [xu.o,← I.o,HR.o]),by rw [amQ];exact W,U,M33⟩,by simp [intOf];omega⟩
  ·obtain rfl:k=m:=by omega
   have HRR:=O (show dL d k ⟨[],[],s⟩=r by rw [← HR.o,Nat.sub_self];rfl);clear HR;go_wp2_with fail;go_ret2
   rw [HRR.o];exact⟨A,c,H,ji,lv9,rfl,j.o,D.o,P.o⟩
theorem LU (a:Bool)(n:Int)(l:-1000≤n)(q:n≤1000)(g:Nat)(iv:Value)(w:World)(s:Gs)(xs:List NV)(nv lv:Value)(h:PL g a iv w s xs nv lv)(t:s.ns.length≤900000) :
  Calls Tryz.prog 28 #[.pointer (some ⟨g,0,none⟩),.int .i64 n] w (mF g a iv w xs nv (eT n s)):=by
 have c:=O h;have d:=O (Gw.refl (g:=g) (w:=w) (xs:=xs) (nv:=nv));clear h;go_in
 go_wp2_with fail;refine (uD (n) (by omega) (by omega) g a _ _ (s) _ _ _ c.o).mono ?_;rintro e w1⟨rfl,b⟩;have f:=O (c.o.below b);have j:=O (d.o.o_ b);clear b c d;go_wp2_with fail;refine (iD g a _ _ (s) _ _ _ f.o 1 [] n _ [] (dw.none_ _) (by first | omega|(simp only [aO,eH];omega))).mono ?_;rintro e u⟨rfl,r,h,m⟩;have i:=O h;have k:=O (j.o.vW (x:=(⟨1,[],n,[],0⟩,(.slice none 0 0))) m pX);clear h m;go_wp2_with fail;go_ret2
 refine⟨?_,_,_,_,i.o,k.o⟩
 show _=Ending.returned (.tuple #[.string (aG (ah (pQ n))),.int .i64 (s).id])
 rw [Gz];rfl
