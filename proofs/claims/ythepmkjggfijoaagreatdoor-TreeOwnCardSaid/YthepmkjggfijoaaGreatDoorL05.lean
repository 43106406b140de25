/-
  A part of the proof.
-/
import Derived.Test.YthepmkjggfijoaaGreatDoorSA
import Derived.Test.YthepmkjggfijoaaGreatDoorL04
set_option linter.all false
set_option maxRecDepth 100000
namespace Mist
def tl (I:bN):Nat:=(aN I).length
theorem eU:tl []=0:=rfl
theorem bU (g:Bs)(k:Nat)(t:Bs)(I:bN):tl ((g,k,t) :: I)=g.length+t.length+tl I:=by
 unfold tl;rw [aN];simp only [aaO];omega
theorem gL (t:Bs)(I:bN):tl (bR t :: I)=t.length+tl I:=by
 unfold bR;rw [bU];simp
theorem dz (I J:bN):tl (I ++ J)=tl I+tl J:=by unfold tl;rw [qZ,aaO]
theorem CS (g:Bs)(I:bN):tl (bN.on g I)≤g.length+tl I:=by
 cases I with
 | nil=>show 0≤_;omega
 | cons x I =>
  obtain⟨h,k,t⟩:=x
  show tl ((g ++ h,k,t) :: I)≤_
  rw [bU,bU,aaO];omega
theorem mD (ay:Bool)(s:bB):(bG ay s).length≤8:=by
 unfold bG;split
 ·have:∀ g ∈ vJ,g.length≤8:=by decide
  exact this _ (uI vJ _ (by show s.nx % 6 < 6;omega))
 ·decide
theorem iR (b:Nat):(aY b).length≤4:=by
 have:∀ g ∈ iX,g.length≤4:=by decide
 exact this _ (oP b)
theorem Q6 (k:Nat):(sg fD k).length≤3:=by
 by_cases h:k < 13
 ·have:∀ g ∈ fD,g.length≤3:=by decide
  exact this _ (uI fD _ h)
 ·have:sg fD k=[]:=by unfold sg;rw [aaH,List.getElem?_eq_none (by show 13≤k;omega)];rfl
  rw [this];simp
theorem xS (ay:Bool)(I:bN)(s:bB):tl (fG ay I s)≤tl I+12:=by
 have a:=mD ay s.tl;unfold fG;split
 ·rw [List.cons_append,List.cons_append,gL,gL,dz,bU,gL,eU]
  show 1+(1+(tl I+((bG ay s.tl).length+1+(1+0))))≤_
  omega
 ·rw [List.cons_append,gL,dz,gL,eU]
  show 1+(tl I+(1+0))≤_
  omega
theorem uS:∀ n:Fin 140,(Go.Lib.itoa ((n.val:Nat):Int)).length≤3:=by decide +kernel
theorem FB (n:Int)(h1:-140 < n)(h2:n < 140):tl (fE n)≤4:=by
 unfold fE;split
 ·obtain⟨m,a⟩:∃ m:Nat,-n=(m:Int):=⟨(-n).toNat,by omega⟩;rw [a,bU,bU,eU]
  have:=uS ⟨m,by omega⟩
  simp only [List.length_cons,List.length_nil] at *
  omega
 ·obtain⟨m,a⟩:∃ m:Nat,n=(m:Int):=⟨n.toNat,by omega⟩;rw [a,bU,eU]
  have:=uS ⟨m,by omega⟩
  simp only [List.length_nil] at *
  omega
structure abL (E:bB→j4) (L C:Nat):Prop where
 text:∀ s,tl (E s).pc≤L
 nodes:∀ s,(E s).st.ns.length≤s.ns.length+C
theorem Aj (b:Nat)(a:b < 60)(s:bB):tl (kY b s).pc≤8∧(kY b s).st.ns.length=s.ns.length+1:=by
 unfold kY;split
 ·exact⟨Nat.le_trans (FB ((b * 7:Nat):Int) (by omega) (by omega)) (by omega),aaO⟩
 ·split
  ·refine⟨?_,aaO⟩
   show tl [([],3,_)]≤8
   rw [bU];split <;> decide
  ·refine⟨?_,aaO⟩
   show tl [([],1,_)]≤8
   have:=iR b
   rw [bU,eU];simp only [List.length_nil];omega
section
variable (ay:Bool) {E:bB→j4} {L C:Nat} (h:abL E L C)
include h
theorem uT:∀ (m:Nat) (r:oG),tl (bK ay E m r).pc≤tl r.pc+m * (L+9)∧(bK ay E m r).st.ns.length≤r.st.ns.length+m * C∧(bK ay E m r).ix.length=r.ix.length+m
 | 0,r=>⟨by rw [bK];omega,by rw [bK];omega,rfl⟩
 | m+1,r=>by
  rw [bK];have b:(m+1) * (L+9)=m * (L+9)+(L+9):=Nat.succ_mul _ _;have c:(m+1) * C=m * C+C:=Nat.succ_mul _ _;simp only
  split
  ·have a:=uT m ⟨r.pc ++ (E r.st).pc,r.ix ++ [(E r.st).ix],(E r.st).st⟩;have h1:=h.text r.st;have h2:=h.nodes r.st;simp only [dz,aaO,aaT] at a
   exact⟨by omega,by omega,by omega⟩
  ·have a:=uT m ⟨r.pc ++ (bR [44] :: bN.on (bG ay r.st) (E (aO ay r.st)).pc),r.ix ++ [(E (aO ay r.st)).ix],(E (aO ay r.st)).st⟩;have h1:=h.text (aO ay r.st);have h2:=h.nodes (aO ay r.st);have h3:=CS (bG ay r.st) (E (aO ay r.st)).pc;have h4:=mD ay r.st;rw [aF] at h2
   simp only [dz,gL,aaO,aaT] at a
   exact⟨by omega,by omega,by omega⟩
theorem KE:∀ (m:Nat) (r:oG),tl (dQ ay E m r).pc≤tl r.pc+m * (L+14)∧(dQ ay E m r).st.ns.length≤r.st.ns.length+m * (C+1)∧(dQ ay E m r).ix.length=r.ix.length+m
 | 0,r=>⟨by rw [dQ];omega,by rw [dQ];omega,rfl⟩
 | m+1,r=>by
  rw [dQ];have f:(m+1) * (L+14)=m * (L+14)+(L+14):=Nat.succ_mul _ _;have g:(m+1) * (C+1)=m * (C+1)+(C+1):=Nat.succ_mul _ _;obtain⟨a,b⟩:∃ a,a=if r.ix=[] then r.st else aO ay r.st:=⟨_,rfl⟩
  have c:a.ns=r.st.ns:=by rw [b];split;rfl;exact aF ay r.st
  simp only [← b];have h1:=h.text a.tl;have h2:=h.nodes a.tl;have h3:=mD ay r.st;have h4:=iR a.nx
  have i:tl (if r.ix=[] then (([],1,aY a.nx) :: bR [58] :: (E a.tl).pc:bN) else (bG ay r.st,4,[44]) :: ([],1,aY a.nx) :: bR [58] :: (E a.tl).pc)≤L+14:=by
   split
   ·rw [bU,gL];simp only [List.length_nil,aaT];omega
   ·rw [bU,bU,gL];simp only [List.length_nil,aaT];omega
  have d:=KE m ⟨r.pc ++ (if r.ix=[] then (([],1,aY a.nx) :: bR [58] :: (E a.tl).pc:bN) else (bG ay r.st,4,[44]) :: ([],1,aY a.nx) :: bR [58] :: (E a.tl).pc),r.ix ++ [(E a.tl).st.id],(E a.tl).st.put ⟨25,aY a.nx,0,[(E a.tl).ix],0⟩⟩;have e:((E a.tl).st.put ⟨25,aY a.nx,0,[(E a.tl).ix],0⟩).ns.length=(E a.tl).st.ns.length+1:=aaO;have h2:(E a.tl).st.ns.length≤r.st.ns.length+C:=by rw [← c];exact h2
  simp only [dz,aaO,aaT] at d
  rw [e] at d
  exact⟨by omega,by omega,by omega⟩
theorem V9 (b:Nat)(s:bB):tl (Ba ay E b s).pc≤4 * L+100∧(Ba ay E b s).st.ns.length≤s.ns.length+(4 * C+5):=by
 unfold Ba;have h1:=h.text s;have h2:=h.nodes s;have h3:=h.text (E s).st;have h4:=h.nodes (E s).st;split
 ·unfold zV bJ;simp only
  constructor
  ·refine Nat.le_trans (xS ay _ _) ?_;have h5:=CS (bG ay (E s).st) (E s).pc;have h6:=mD ay (E s).st;split
   ·rw [bU];simp only [List.length_cons,List.length_nil];omega
   ·rw [gL];simp only [List.length_cons,List.length_nil];omega
  ·show (_ ++ [_]).length≤_
   rw [aaO,bW,aF];simp only [aaT];omega
 ·unfold CW bJ;simp only
  constructor
  ·refine Nat.le_trans (xS ay _ _) ?_;have h5:=CS (bG ay (aO ay (E (E s).st).st)) (E (E s).st).pc;have h6:=mD ay (E (E s).st).st;have h7:=mD ay (aO ay (E (E s).st).st);have h8:=Q6 (b % 13);rw [dz,bU];omega
  ·show (_ ++ [_]).length≤_
   rw [aaO,bW,aF,aF];simp only [aaT];omega
theorem JK (b:Nat)(s:bB):tl (dZ ay E b s).pc≤4 * L+100∧(dZ ay E b s).st.ns.length≤s.ns.length+(4 * C+5):=by
 have n:=iR s.nx;unfold dZ;simp only
 have f:s.tl.ns=s.ns:=rfl;rw [← f]
 generalize s.tl=s' at *
 generalize aY s.nx=x at *
 clear f;have h1:=h.text s';have h2:=h.nodes s';have h3:=h.text (E s').st;have h4:=h.nodes (E s').st;have h5:=h.text (E (E s').st).st;have h6:=h.nodes (E (E s').st).st;have on:=fun (w:Bool) (z:bB) (I:bN)=>Nat.le_trans (CS (bG w z) I) (Nat.add_le_add_right (mD w z) _)
 have a:=mD ay;split
 ·unfold SH bJ;simp only
  constructor
  ·refine Nat.le_trans (xS ay _ _) ?_;simp only [dz,bU,List.length_cons,List.length_nil];have k:=on ay (E (E (E s').st).st).st (E s').pc;have l:=on ay (aO ay (aO ay (E (E (E s').st).st).st)) (E (E s').st).pc;have q:=on ay (aO ay (aO ay (aO ay (aO ay (E (E (E s').st).st).st)))) (E (E (E s').st).st).pc;have d:=a (aO ay (E (E (E s').st).st).st);have j:=a (aO ay (aO ay (aO ay (E (E (E s').st).st).st)));omega
  ·show (_ ++ [_]).length≤_
   rw [aaO,bW,aF,aF,aF,aF,aF];simp only [aaT];omega
 split
 ·unfold BF bJ;simp only
  constructor
  ·refine Nat.le_trans (xS ay _ _) ?_;simp only [dz,bU,List.length_cons,List.length_nil];have l:=on ay (aO ay (aO ay (aO ay (E (E s').st).st))) (E (E s').st).pc;have d:=a (E (E s').st).st;have j:=a (aO ay (E (E s').st).st);have m:=a (aO ay (aO ay (E (E s').st).st));omega
  ·show (_ ++ [_]).length≤_
   rw [aaO,bW,aF,aF,aF,aF];simp only [aaT];omega
 split
 ·unfold vI bJ;simp only
  obtain⟨e,c,_⟩:=uT ay h (s'.nx % 4) ⟨[],[],s'.tl⟩;rw [eU] at e
  have c:(bK ay E (s'.nx % 4) ⟨[],[],s'.tl⟩).st.ns.length≤s'.ns.length+s'.nx % 4 * C:=c;have g:s'.nx % 4 * (L+9)≤3 * (L+9):=Nat.mul_le_mul_right _ (by omega);have i:s'.nx % 4 * C≤3 * C:=Nat.mul_le_mul_right _ (by omega);constructor
  ·simp only [dz,bU,gL,eU,List.length_cons,List.length_nil];have d:=a (bK ay E (s'.nx % 4) ⟨[],[],s'.tl⟩).st;omega
  ·show (_ ++ [_]).length≤_
   rw [aaO,aF];simp only [aaT];omega
 split
 ·unfold qz bJ;simp only
  constructor
  ·simp only [dz,bU,gL,eU,List.length_cons,List.length_nil];have d:=a (E s').st;omega
  ·show (_ ++ [_]).length≤_
   rw [aaO,aF];simp only [aaT];omega
 split
 ·unfold qC bJ;simp only
  constructor
  ·simp only [dz,bU,gL,eU,List.length_cons,List.length_nil];have d:=a (E (E s').st).st;omega
  ·show (_ ++ [_]).length≤_
   rw [aaO,aF];simp only [aaT];omega
 split
 ·unfold qc bJ;simp only
  obtain⟨e,c,_⟩:=uT ay h (1+s'.nx % 4) ⟨[],[],s'.tl⟩;rw [eU] at e
  have c:(bK ay E (1+s'.nx % 4) ⟨[],[],s'.tl⟩).st.ns.length≤s'.ns.length+(1+s'.nx % 4) * C:=c;have g:(1+s'.nx % 4) * (L+9)≤4 * (L+9):=Nat.mul_le_mul_right _ (by omega);have i:(1+s'.nx % 4) * C≤4 * C:=Nat.mul_le_mul_right _ (by omega);constructor
  ·simp only [dz,bU,gL,eU,List.length_cons,List.length_nil];have k:=on ay (bK ay E (1+s'.nx % 4) ⟨[],[],s'.tl⟩).st (bK ay E (1+s'.nx % 4) ⟨[],[],s'.tl⟩).pc;omega
  ·show (_ ++ [_]).length≤_
   rw [aaO,aF];simp only [aaT];omega
 ·unfold BI bJ;simp only
  obtain⟨e,c,_⟩:=KE ay h (1+b % 3) ⟨[],[],s'⟩;rw [eU] at e
  have c:(dQ ay E (1+b % 3) ⟨[],[],s'⟩).st.ns.length≤s'.ns.length+(1+b % 3) * (C+1):=c;have g:(1+b % 3) * (L+14)≤3 * (L+14):=Nat.mul_le_mul_right _ (by omega);have i:(1+b % 3) * (C+1)≤3 * (C+1):=Nat.mul_le_mul_right _ (by omega);constructor
  ·simp only [dz,bU,gL,eU,List.length_cons,List.length_nil];have d:=a (dQ ay E (1+b % 3) ⟨[],[],s'⟩).st;omega
  ·show (_ ++ [_]).length≤_
   rw [aaO,aF];simp only [aaT];omega
end
def NC:Nat→Nat
 | 0=>8
 | d+1=>4 * NC d+100
def SC:Nat→Nat
 | 0=>1
 | d+1=>4 * SC d+5
theorem VY:∀ d,8≤NC d∧1≤SC d
 | 0=>⟨aaJ _,aaJ _⟩
 | d+1=>by have:=VY d;unfold NC SC;omega
theorem ko (ay:Bool):∀ d,abL (bA ay d) (NC d) (SC d)
 | 0=>⟨fun s=>(Aj _ (Nat.mod_lt _ (by decide)) s.tl).1,fun s=>Nat.le_of_eq (Aj _ (Nat.mod_lt _ (by decide)) s.tl).2⟩
 | d+1=>by
  have a:=ko ay d;have b:=VY d
  refine⟨fun s=>?_,fun s=>?_⟩
  ·rw [bA];split
   ·rename_i e;have:=(Aj _ e s.tl).1;unfold NC;omega
   split
   ·exact (V9 ay a s.nx s.tl).1
   ·exact (JK ay a s.nx s.tl).1
  ·rw [bA];split
   ·rename_i e;have:=(Aj _ e s.tl).2;unfold SC;rw [this];show s.ns.length+1≤_;omega
   split
   ·exact (V9 ay a s.nx s.tl).2
   ·exact (JK ay a s.nx s.tl).2
end Mist
