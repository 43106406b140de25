/-
  A part of the proof.
-/
import Derived.Test.YthepmkjggfijoaaGreatDoorSA
import Derived.Test.YthepmkjggfijoaaGreatDoorL04
set_option linter.all false
set_option maxRecDepth 100000
namespace Mist
def tl (I:bM):Nat:=(aN I).length
theorem dM:tl []=0:=rfl
theorem bS (g:Bs)(k:Nat)(t:Bs)(I:bM):tl ((g,k,t) :: I)=g.length+t.length+tl I:=by
 unfold tl;rw [aN];simp only [aaO];omega
theorem fD (t:Bs)(I:bM):tl (bN t :: I)=t.length+tl I:=by
 unfold bN;rw [bS];simp
theorem bW (I J:bM):tl (I ++ J)=tl I+tl J:=by unfold tl;rw [qZ,aaO]
theorem CZ (g:Bs)(I:bM):tl (bM.on g I)≤g.length+tl I:=by
 cases I with
 | nil=>show 0≤_;omega
 | cons x I =>
  obtain⟨h,k,t⟩:=x
  show tl ((g ++ h,k,t) :: I)≤_
  rw [bS,bS,aaO];omega
theorem kK (ay:Bool)(s:bB):(bE ay s).length≤8:=by
 unfold bE;split
 ·have:∀ g ∈ vw,g.length≤8:=by decide
  exact this _ (sU vw _ (by show s.nx % 6 < 6;omega))
 ·decide
theorem gL (b:Nat):(bn b).length≤4:=by
 have:∀ g ∈ iY,g.length≤4:=by decide
 exact this _ (nX b)
theorem RF (k:Nat):(sg eF k).length≤3:=by
 by_cases h:k < 13
 ·have:∀ g ∈ eF,g.length≤3:=by decide
  exact this _ (sU eF _ h)
 ·have:sg eF k=[]:=by unfold sg;rw [aaH,List.getElem?_eq_none (by show 13≤k;omega)];rfl
  rw [this];simp
theorem xQ (ay:Bool)(I:bM)(s:bB):tl (eX ay I s)≤tl I+12:=by
 have a:=kK ay s.tl;unfold eX;split
 ·rw [List.cons_append,List.cons_append,fD,fD,bW,bS,fD,dM]
  show 1+(1+(tl I+((bE ay s.tl).length+1+(1+0))))≤_
  omega
 ·rw [List.cons_append,fD,bW,fD,dM]
  show 1+(tl I+(1+0))≤_
  omega
theorem tu:∀ n:Fin 140,(Go.Lib.itoa ((n.val:Nat):Int)).length≤3:=by decide +kernel
theorem Gn (n:Int)(h1:-140 < n)(h2:n < 140):tl (eU n)≤4:=by
 unfold eU;split
 ·obtain⟨m,a⟩:∃ m:Nat,-n=(m:Int):=⟨(-n).toNat,by omega⟩;rw [a,bS,bS,dM]
  have:=tu ⟨m,by omega⟩
  simp only [List.length_cons,List.length_nil] at *
  omega
 ·obtain⟨m,a⟩:∃ m:Nat,n=(m:Int):=⟨n.toNat,by omega⟩;rw [a,bS,dM]
  have:=tu ⟨m,by omega⟩
  simp only [List.length_nil] at *
  omega
structure abL (E:bB→jy) (L C:Nat):Prop where
 text:∀ s,tl (E s).pc≤L
 nodes:∀ s,(E s).st.ns.length≤s.ns.length+C
theorem Ag (b:Nat)(a:b < 60)(s:bB):tl (kM b s).pc≤8∧(kM b s).st.ns.length=s.ns.length+1:=by
 unfold kM;split
 ·exact⟨Nat.le_trans (Gn ((b * 7:Nat):Int) (by omega) (by omega)) (by omega),aaO⟩
 ·split
  ·refine⟨?_,aaO⟩
   show tl [([],3,_)]≤8
   rw [bS];split <;> decide
  ·refine⟨?_,aaO⟩
   show tl [([],1,_)]≤8
   have:=gL b
   rw [bS,dM];simp only [List.length_nil];omega
section
variable (ay:Bool) {E:bB→jy} {L C:Nat} (h:abL E L C)
include h
theorem tX:∀ (m:Nat) (r:nZ),tl (bK ay E m r).pc≤tl r.pc+m * (L+9)∧(bK ay E m r).st.ns.length≤r.st.ns.length+m * C∧(bK ay E m r).ix.length=r.ix.length+m
 | 0,r=>⟨by rw [bK];omega,by rw [bK];omega,rfl⟩
 | m+1,r=>by
  rw [bK];have b:(m+1) * (L+9)=m * (L+9)+(L+9):=Nat.succ_mul _ _;have c:(m+1) * C=m * C+C:=Nat.succ_mul _ _;simp only
  split
  ·have a:=tX m ⟨r.pc ++ (E r.st).pc,r.ix ++ [(E r.st).ix],(E r.st).st⟩;have h1:=h.text r.st;have h2:=h.nodes r.st;simp only [bW,aaO,aaT] at a
   exact⟨by omega,by omega,by omega⟩
  ·have a:=tX m ⟨r.pc ++ (bN [44] :: bM.on (bE ay r.st) (E (aO ay r.st)).pc),r.ix ++ [(E (aO ay r.st)).ix],(E (aO ay r.st)).st⟩;have h1:=h.text (aO ay r.st);have h2:=h.nodes (aO ay r.st);have h3:=CZ (bE ay r.st) (E (aO ay r.st)).pc;have h4:=kK ay r.st;rw [aF] at h2
   simp only [bW,fD,aaO,aaT] at a
   exact⟨by omega,by omega,by omega⟩
theorem KU:∀ (m:Nat) (r:nZ),tl (dQ ay E m r).pc≤tl r.pc+m * (L+14)∧(dQ ay E m r).st.ns.length≤r.st.ns.length+m * (C+1)∧(dQ ay E m r).ix.length=r.ix.length+m
 | 0,r=>⟨by rw [dQ];omega,by rw [dQ];omega,rfl⟩
 | m+1,r=>by
  rw [dQ];have f:(m+1) * (L+14)=m * (L+14)+(L+14):=Nat.succ_mul _ _;have g:(m+1) * (C+1)=m * (C+1)+(C+1):=Nat.succ_mul _ _;obtain⟨a,b⟩:∃ a,a=if r.ix=[] then r.st else aO ay r.st:=⟨_,rfl⟩
  have c:a.ns=r.st.ns:=by rw [b];split;rfl;exact aF ay r.st
  simp only [← b];have h1:=h.text a.tl;have h2:=h.nodes a.tl;have h3:=kK ay r.st;have h4:=gL a.nx
  have i:tl (if r.ix=[] then (([],1,bn a.nx) :: bN [58] :: (E a.tl).pc:bM) else (bE ay r.st,4,[44]) :: ([],1,bn a.nx) :: bN [58] :: (E a.tl).pc)≤L+14:=by
   split
   ·rw [bS,fD];simp only [List.length_nil,aaT];omega
   ·rw [bS,bS,fD];simp only [List.length_nil,aaT];omega
  have d:=KU m ⟨r.pc ++ (if r.ix=[] then (([],1,bn a.nx) :: bN [58] :: (E a.tl).pc:bM) else (bE ay r.st,4,[44]) :: ([],1,bn a.nx) :: bN [58] :: (E a.tl).pc),r.ix ++ [(E a.tl).st.id],(E a.tl).st.put ⟨25,bn a.nx,0,[(E a.tl).ix],0⟩⟩;have e:((E a.tl).st.put ⟨25,bn a.nx,0,[(E a.tl).ix],0⟩).ns.length=(E a.tl).st.ns.length+1:=aaO;have h2:(E a.tl).st.ns.length≤r.st.ns.length+C:=by rw [← c];exact h2
  simp only [bW,aaO,aaT] at d
  rw [e] at d
  exact⟨by omega,by omega,by omega⟩
theorem Xi (b:Nat)(s:bB):tl (BO ay E b s).pc≤4 * L+100∧(BO ay E b s).st.ns.length≤s.ns.length+(4 * C+5):=by
 unfold BO;have h1:=h.text s;have h2:=h.nodes s;have h3:=h.text (E s).st;have h4:=h.nodes (E s).st;split
 ·unfold Bc bL;simp only
  constructor
  ·refine Nat.le_trans (xQ ay _ _) ?_;have h5:=CZ (bE ay (E s).st) (E s).pc;have h6:=kK ay (E s).st;split
   ·rw [bS];simp only [List.length_cons,List.length_nil];omega
   ·rw [fD];simp only [List.length_cons,List.length_nil];omega
  ·show (_ ++ [_]).length≤_
   rw [aaO,bU,aF];simp only [aaT];omega
 ·unfold EM bL;simp only
  constructor
  ·refine Nat.le_trans (xQ ay _ _) ?_;have h5:=CZ (bE ay (aO ay (E (E s).st).st)) (E (E s).st).pc;have h6:=kK ay (E (E s).st).st;have h7:=kK ay (aO ay (E (E s).st).st);have h8:=RF (b % 13);rw [bW,bS];omega
  ·show (_ ++ [_]).length≤_
   rw [aaO,bU,aF,aF];simp only [aaT];omega
theorem J9 (b:Nat)(s:bB):tl (dZ ay E b s).pc≤4 * L+100∧(dZ ay E b s).st.ns.length≤s.ns.length+(4 * C+5):=by
 have n:=gL s.nx;unfold dZ;simp only
 have f:s.tl.ns=s.ns:=rfl;rw [← f]
 generalize s.tl=s' at *
 generalize bn s.nx=x at *
 clear f;have h1:=h.text s';have h2:=h.nodes s';have h3:=h.text (E s').st;have h4:=h.nodes (E s').st;have h5:=h.text (E (E s').st).st;have h6:=h.nodes (E (E s').st).st;have on:=fun (w:Bool) (z:bB) (I:bM)=>Nat.le_trans (CZ (bE w z) I) (Nat.add_le_add_right (kK w z) _)
 have a:=kK ay;split
 ·unfold Us bL;simp only
  constructor
  ·refine Nat.le_trans (xQ ay _ _) ?_;simp only [bW,bS,List.length_cons,List.length_nil];have k:=on ay (E (E (E s').st).st).st (E s').pc;have l:=on ay (aO ay (aO ay (E (E (E s').st).st).st)) (E (E s').st).pc;have q:=on ay (aO ay (aO ay (aO ay (aO ay (E (E (E s').st).st).st)))) (E (E (E s').st).st).pc;have d:=a (aO ay (E (E (E s').st).st).st);have j:=a (aO ay (aO ay (aO ay (E (E (E s').st).st).st)));omega
  ·show (_ ++ [_]).length≤_
   rw [aaO,bU,aF,aF,aF,aF,aF];simp only [aaT];omega
 split
 ·unfold DJ bL;simp only
  constructor
  ·refine Nat.le_trans (xQ ay _ _) ?_;simp only [bW,bS,List.length_cons,List.length_nil];have l:=on ay (aO ay (aO ay (aO ay (E (E s').st).st))) (E (E s').st).pc;have d:=a (E (E s').st).st;have j:=a (aO ay (E (E s').st).st);have m:=a (aO ay (aO ay (E (E s').st).st));omega
  ·show (_ ++ [_]).length≤_
   rw [aaO,bU,aF,aF,aF,aF];simp only [aaT];omega
 split
 ·unfold wh bL;simp only
  obtain⟨e,c,_⟩:=tX ay h (s'.nx % 4) ⟨[],[],s'.tl⟩;rw [dM] at e
  have c:(bK ay E (s'.nx % 4) ⟨[],[],s'.tl⟩).st.ns.length≤s'.ns.length+s'.nx % 4 * C:=c;have g:s'.nx % 4 * (L+9)≤3 * (L+9):=Nat.mul_le_mul_right _ (by omega);have i:s'.nx % 4 * C≤3 * C:=Nat.mul_le_mul_right _ (by omega);constructor
  ·simp only [bW,bS,fD,dM,List.length_cons,List.length_nil];have d:=a (bK ay E (s'.nx % 4) ⟨[],[],s'.tl⟩).st;omega
  ·show (_ ++ [_]).length≤_
   rw [aaO,aF];simp only [aaT];omega
 split
 ·unfold qC bL;simp only
  constructor
  ·simp only [bW,bS,fD,dM,List.length_cons,List.length_nil];have d:=a (E s').st;omega
  ·show (_ ++ [_]).length≤_
   rw [aaO,aF];simp only [aaT];omega
 split
 ·unfold qF bL;simp only
  constructor
  ·simp only [bW,bS,fD,dM,List.length_cons,List.length_nil];have d:=a (E (E s').st).st;omega
  ·show (_ ++ [_]).length≤_
   rw [aaO,aF];simp only [aaT];omega
 split
 ·unfold ql bL;simp only
  obtain⟨e,c,_⟩:=tX ay h (1+s'.nx % 4) ⟨[],[],s'.tl⟩;rw [dM] at e
  have c:(bK ay E (1+s'.nx % 4) ⟨[],[],s'.tl⟩).st.ns.length≤s'.ns.length+(1+s'.nx % 4) * C:=c;have g:(1+s'.nx % 4) * (L+9)≤4 * (L+9):=Nat.mul_le_mul_right _ (by omega);have i:(1+s'.nx % 4) * C≤4 * C:=Nat.mul_le_mul_right _ (by omega);constructor
  ·simp only [bW,bS,fD,dM,List.length_cons,List.length_nil];have k:=on ay (bK ay E (1+s'.nx % 4) ⟨[],[],s'.tl⟩).st (bK ay E (1+s'.nx % 4) ⟨[],[],s'.tl⟩).pc;omega
  ·show (_ ++ [_]).length≤_
   rw [aaO,aF];simp only [aaT];omega
 ·unfold D7 bL;simp only
  obtain⟨e,c,_⟩:=KU ay h (1+b % 3) ⟨[],[],s'⟩;rw [dM] at e
  have c:(dQ ay E (1+b % 3) ⟨[],[],s'⟩).st.ns.length≤s'.ns.length+(1+b % 3) * (C+1):=c;have g:(1+b % 3) * (L+14)≤3 * (L+14):=Nat.mul_le_mul_right _ (by omega);have i:(1+b % 3) * (C+1)≤3 * (C+1):=Nat.mul_le_mul_right _ (by omega);constructor
  ·simp only [bW,bS,fD,dM,List.length_cons,List.length_nil];have d:=a (dQ ay E (1+b % 3) ⟨[],[],s'⟩).st;omega
  ·show (_ ++ [_]).length≤_
   rw [aaO,aF];simp only [aaT];omega
end
def Oh:Nat→Nat
 | 0=>8
 | d+1=>4 * Oh d+100
def Tc:Nat→Nat
 | 0=>1
 | d+1=>4 * Tc d+5
theorem Wy:∀ d,8≤Oh d∧1≤Tc d
 | 0=>⟨aaJ _,aaJ _⟩
 | d+1=>by have:=Wy d;unfold Oh Tc;omega
theorem jA (ay:Bool):∀ d,abL (bA ay d) (Oh d) (Tc d)
 | 0=>⟨fun s=>(Ag _ (Nat.mod_lt _ (by decide)) s.tl).1,fun s=>Nat.le_of_eq (Ag _ (Nat.mod_lt _ (by decide)) s.tl).2⟩
 | d+1=>by
  have a:=jA ay d;have b:=Wy d
  refine⟨fun s=>?_,fun s=>?_⟩
  ·rw [bA];split
   ·rename_i e;have:=(Ag _ e s.tl).1;unfold Oh;omega
   split
   ·exact (Xi ay a s.nx s.tl).1
   ·exact (J9 ay a s.nx s.tl).1
  ·rw [bA];split
   ·rename_i e;have:=(Ag _ e s.tl).2;unfold Tc;rw [this];show s.ns.length+1≤_;omega
   split
   ·exact (Xi ay a s.nx s.tl).2
   ·exact (J9 ay a s.nx s.tl).2
end Mist
