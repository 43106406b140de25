/-
  A part of the proof.
-/
import Derived.Test.YthepmkjggfijoaaGreatDoorSA
import Derived.Test.YthepmkjggfijoaaGreatDoorW04
set_option linter.all false
set_option maxRecDepth 100000
namespace Mist
def tl (I:bN):Nat:=(aN I).length
theorem fu:tl []=0:=rfl
theorem bT (g:Bs)(k:Nat)(t:Bs)(I:bN):tl ((g,k,t) :: I)=g.length+t.length+tl I:=by
 unfold tl;rw [aN];simp only [aaO];omega
theorem gZ (t:Bs)(I:bN):tl (bP t :: I)=t.length+tl I:=by
 unfold bP;rw [bT];simp
theorem cK (I J:bN):tl (I ++ J)=tl I+tl J:=by unfold tl;rw [qZ,aaO]
theorem F7 (g:Bs)(I:bN):tl (bN.on g I)≤g.length+tl I:=by
 cases I with
 | nil=>show 0≤_;omega
 | cons x I =>
  obtain⟨h,k,t⟩:=x
  show tl ((g ++ h,k,t) :: I)≤_
  rw [bT,bT,aaO];omega
theorem mK (ay:Bool)(s:bC):(bG ay s).length≤8:=by
 unfold bG;split
 ·have:∀ g ∈ xP,g.length≤8:=by decide
  exact this _ (wD xP _ (by show s.nx % 6 < 6;omega))
 ·decide
theorem iY (b:Nat):(bA b).length≤4:=by
 have:∀ g ∈ j4,g.length≤4:=by decide
 exact this _ (ql b)
theorem SS (k:Nat):(sg gL k).length≤3:=by
 by_cases h:k < 13
 ·have:∀ g ∈ gL,g.length≤3:=by decide
  exact this _ (wD gL _ h)
 ·have:sg gL k=[]:=by unfold sg;rw [aaH,List.getElem?_eq_none (by show 13≤k;omega)];rfl
  rw [this];simp
theorem zZ (ay:Bool)(I:bN)(s:bC):tl (fK ay I s)≤tl I+12:=by
 have a:=mK ay s.tl;unfold fK;split
 ·rw [List.cons_append,List.cons_append,gZ,gZ,cK,bT,gZ,fu]
  show 1+(1+(tl I+((bG ay s.tl).length+1+(1+0))))≤_
  omega
 ·rw [List.cons_append,gZ,cK,gZ,fu]
  show 1+(tl I+(1+0))≤_
  omega
theorem wF:∀ n:Fin 140,(Go.Lib.itoa ((n.val:Nat):Int)).length≤3:=by decide +kernel
theorem Ju (n:Int)(h1:-140 < n)(h2:n < 140):tl (fI n)≤4:=by
 unfold fI;split
 ·obtain⟨m,a⟩:∃ m:Nat,-n=(m:Int):=⟨(-n).toNat,by omega⟩;rw [a,bT,bT,fu]
  have:=wF ⟨m,by omega⟩
  simp only [List.length_cons,List.length_nil] at *
  omega
 ·obtain⟨m,a⟩:∃ m:Nat,n=(m:Int):=⟨n.toNat,by omega⟩;rw [a,bT,fu]
  have:=wF ⟨m,by omega⟩
  simp only [List.length_nil] at *
  omega
structure abL (E:bC→kJ) (L C:Nat):Prop where
 text:∀ s,tl (E s).pc≤L
 nodes:∀ s,(E s).st.ns.length≤s.ns.length+C
theorem BU (b:Nat)(a:b < 60)(s:bC):tl (lF b s).pc≤8∧(lF b s).st.ns.length=s.ns.length+1:=by
 unfold lF;split
 ·exact⟨Nat.le_trans (Ju ((b * 7:Nat):Int) (by omega) (by omega)) (by omega),aaO⟩
 ·split
  ·refine⟨?_,aaO⟩
   show tl [([],3,_)]≤8
   rw [bT];split <;> decide
  ·refine⟨?_,aaO⟩
   show tl [([],1,_)]≤8
   have:=iY b
   rw [bT,fu];simp only [List.length_nil];omega
section
variable (ay:Bool) {E:bC→kJ} {L C:Nat} (h:abL E L C)
include h
theorem wG:∀ (m:Nat) (r:pz),tl (bK ay E m r).pc≤tl r.pc+m * (L+9)∧(bK ay E m r).st.ns.length≤r.st.ns.length+m * C∧(bK ay E m r).ix.length=r.ix.length+m
 | 0,r=>⟨by rw [bK];omega,by rw [bK];omega,rfl⟩
 | m+1,r=>by
  rw [bK];have b:(m+1) * (L+9)=m * (L+9)+(L+9):=Nat.succ_mul _ _;have c:(m+1) * C=m * C+C:=Nat.succ_mul _ _;simp only
  split
  ·have a:=wG m ⟨r.pc ++ (E r.st).pc,r.ix ++ [(E r.st).ix],(E r.st).st⟩;have h1:=h.text r.st;have h2:=h.nodes r.st;simp only [cK,aaO,aaT] at a
   exact⟨by omega,by omega,by omega⟩
  ·have a:=wG m ⟨r.pc ++ (bP [44] :: bN.on (bG ay r.st) (E (aX ay r.st)).pc),r.ix ++ [(E (aX ay r.st)).ix],(E (aX ay r.st)).st⟩;have h1:=h.text (aX ay r.st);have h2:=h.nodes (aX ay r.st);have h3:=F7 (bG ay r.st) (E (aX ay r.st)).pc;have h4:=mK ay r.st;rw [aF] at h2
   simp only [cK,gZ,aaO,aaT] at a
   exact⟨by omega,by omega,by omega⟩
theorem Ny:∀ (m:Nat) (r:pz),tl (eD ay E m r).pc≤tl r.pc+m * (L+14)∧(eD ay E m r).st.ns.length≤r.st.ns.length+m * (C+1)∧(eD ay E m r).ix.length=r.ix.length+m
 | 0,r=>⟨by rw [eD];omega,by rw [eD];omega,rfl⟩
 | m+1,r=>by
  rw [eD];have f:(m+1) * (L+14)=m * (L+14)+(L+14):=Nat.succ_mul _ _;have g:(m+1) * (C+1)=m * (C+1)+(C+1):=Nat.succ_mul _ _;obtain⟨a,b⟩:∃ a,a=if r.ix=[] then r.st else aX ay r.st:=⟨_,rfl⟩
  have c:a.ns=r.st.ns:=by rw [b];split;rfl;exact aF ay r.st
  simp only [← b];have h1:=h.text a.tl;have h2:=h.nodes a.tl;have h3:=mK ay r.st;have h4:=iY a.nx
  have i:tl (if r.ix=[] then (([],1,bA a.nx) :: bP [58] :: (E a.tl).pc:bN) else (bG ay r.st,4,[44]) :: ([],1,bA a.nx) :: bP [58] :: (E a.tl).pc)≤L+14:=by
   split
   ·rw [bT,gZ];simp only [List.length_nil,aaT];omega
   ·rw [bT,bT,gZ];simp only [List.length_nil,aaT];omega
  have d:=Ny m ⟨r.pc ++ (if r.ix=[] then (([],1,bA a.nx) :: bP [58] :: (E a.tl).pc:bN) else (bG ay r.st,4,[44]) :: ([],1,bA a.nx) :: bP [58] :: (E a.tl).pc),r.ix ++ [(E a.tl).st.id],(E a.tl).st.put ⟨25,bA a.nx,0,[(E a.tl).ix],0⟩⟩;have e:((E a.tl).st.put ⟨25,bA a.nx,0,[(E a.tl).ix],0⟩).ns.length=(E a.tl).st.ns.length+1:=aaO;have h2:(E a.tl).st.ns.length≤r.st.ns.length+C:=by rw [← c];exact h2
  simp only [cK,aaO,aaT] at d
  rw [e] at d
  exact⟨by omega,by omega,by omega⟩
theorem Zt (b:Nat)(s:bC):tl (CW ay E b s).pc≤4 * L+100∧(CW ay E b s).st.ns.length≤s.ns.length+(4 * C+5):=by
 unfold CW;have h1:=h.text s;have h2:=h.nodes s;have h3:=h.text (E s).st;have h4:=h.nodes (E s).st;split
 ·unfold BN bH;simp only
  constructor
  ·refine Nat.le_trans (zZ ay _ _) ?_;have h5:=F7 (bG ay (E s).st) (E s).pc;have h6:=mK ay (E s).st;split
   ·rw [bT];simp only [List.length_cons,List.length_nil];omega
   ·rw [gZ];simp only [List.length_cons,List.length_nil];omega
  ·show (_ ++ [_]).length≤_
   rw [aaO,bV,aF];simp only [aaT];omega
 ·unfold Ga bH;simp only
  constructor
  ·refine Nat.le_trans (zZ ay _ _) ?_;have h5:=F7 (bG ay (aX ay (E (E s).st).st)) (E (E s).st).pc;have h6:=mK ay (E (E s).st).st;have h7:=mK ay (aX ay (E (E s).st).st);have h8:=SS (b % 13);rw [cK,bT];omega
  ·show (_ ++ [_]).length≤_
   rw [aaO,bV,aF,aF];simp only [aaT];omega
theorem MC (b:Nat)(s:bC):tl (eF ay E b s).pc≤4 * L+100∧(eF ay E b s).st.ns.length≤s.ns.length+(4 * C+5):=by
 have n:=iY s.nx;unfold eF;simp only
 have f:s.tl.ns=s.ns:=rfl;rw [← f]
 generalize s.tl=s' at *
 generalize bA s.nx=x at *
 clear f;have h1:=h.text s';have h2:=h.nodes s';have h3:=h.text (E s').st;have h4:=h.nodes (E s').st;have h5:=h.text (E (E s').st).st;have h6:=h.nodes (E (E s').st).st;have on:=fun (w:Bool) (z:bC) (I:bN)=>Nat.le_trans (F7 (bG w z) I) (Nat.add_le_add_right (mK w z) _)
 have a:=mK ay;split
 ·unfold Va bH;simp only
  constructor
  ·refine Nat.le_trans (zZ ay _ _) ?_;simp only [cK,bT,List.length_cons,List.length_nil];have k:=on ay (E (E (E s').st).st).st (E s').pc;have l:=on ay (aX ay (aX ay (E (E (E s').st).st).st)) (E (E s').st).pc;have q:=on ay (aX ay (aX ay (aX ay (aX ay (E (E (E s').st).st).st)))) (E (E (E s').st).st).pc;have d:=a (aX ay (E (E (E s').st).st).st);have j:=a (aX ay (aX ay (aX ay (E (E (E s').st).st).st)));omega
  ·show (_ ++ [_]).length≤_
   rw [aaO,bV,aF,aF,aF,aF,aF];simp only [aaT];omega
 split
 ·unfold DW bH;simp only
  constructor
  ·refine Nat.le_trans (zZ ay _ _) ?_;simp only [cK,bT,List.length_cons,List.length_nil];have l:=on ay (aX ay (aX ay (aX ay (E (E s').st).st))) (E (E s').st).pc;have d:=a (E (E s').st).st;have j:=a (aX ay (E (E s').st).st);have m:=a (aX ay (aX ay (E (E s').st).st));omega
  ·show (_ ++ [_]).length≤_
   rw [aaO,bV,aF,aF,aF,aF];simp only [aaT];omega
 split
 ·unfold xJ bH;simp only
  obtain⟨e,c,_⟩:=wG ay h (s'.nx % 4) ⟨[],[],s'.tl⟩;rw [fu] at e
  have c:(bK ay E (s'.nx % 4) ⟨[],[],s'.tl⟩).st.ns.length≤s'.ns.length+s'.nx % 4 * C:=c;have g:s'.nx % 4 * (L+9)≤3 * (L+9):=Nat.mul_le_mul_right _ (by omega);have i:s'.nx % 4 * C≤3 * C:=Nat.mul_le_mul_right _ (by omega);constructor
  ·simp only [cK,bT,gZ,fu,List.length_cons,List.length_nil];have d:=a (bK ay E (s'.nx % 4) ⟨[],[],s'.tl⟩).st;omega
  ·show (_ ++ [_]).length≤_
   rw [aaO,aF];simp only [aaT];omega
 split
 ·unfold sI bH;simp only
  constructor
  ·simp only [cK,bT,gZ,fu,List.length_cons,List.length_nil];have d:=a (E s').st;omega
  ·show (_ ++ [_]).length≤_
   rw [aaO,aF];simp only [aaT];omega
 split
 ·unfold sP bH;simp only
  constructor
  ·simp only [cK,bT,gZ,fu,List.length_cons,List.length_nil];have d:=a (E (E s').st).st;omega
  ·show (_ ++ [_]).length≤_
   rw [aaO,aF];simp only [aaT];omega
 split
 ·unfold rQ bH;simp only
  obtain⟨e,c,_⟩:=wG ay h (1+s'.nx % 4) ⟨[],[],s'.tl⟩;rw [fu] at e
  have c:(bK ay E (1+s'.nx % 4) ⟨[],[],s'.tl⟩).st.ns.length≤s'.ns.length+(1+s'.nx % 4) * C:=c;have g:(1+s'.nx % 4) * (L+9)≤4 * (L+9):=Nat.mul_le_mul_right _ (by omega);have i:(1+s'.nx % 4) * C≤4 * C:=Nat.mul_le_mul_right _ (by omega);constructor
  ·simp only [cK,bT,gZ,fu,List.length_cons,List.length_nil];have k:=on ay (bK ay E (1+s'.nx % 4) ⟨[],[],s'.tl⟩).st (bK ay E (1+s'.nx % 4) ⟨[],[],s'.tl⟩).pc;omega
  ·show (_ ++ [_]).length≤_
   rw [aaO,aF];simp only [aaT];omega
 ·unfold D_ bH;simp only
  obtain⟨e,c,_⟩:=Ny ay h (1+b % 3) ⟨[],[],s'⟩;rw [fu] at e
  have c:(eD ay E (1+b % 3) ⟨[],[],s'⟩).st.ns.length≤s'.ns.length+(1+b % 3) * (C+1):=c;have g:(1+b % 3) * (L+14)≤3 * (L+14):=Nat.mul_le_mul_right _ (by omega);have i:(1+b % 3) * (C+1)≤3 * (C+1):=Nat.mul_le_mul_right _ (by omega);constructor
  ·simp only [cK,bT,gZ,fu,List.length_cons,List.length_nil];have d:=a (eD ay E (1+b % 3) ⟨[],[],s'⟩).st;omega
  ·show (_ ++ [_]).length≤_
   rw [aaO,aF];simp only [aaT];omega
end
def Qn:Nat→Nat
 | 0=>8
 | d+1=>4 * Qn d+100
def UN:Nat→Nat
 | 0=>1
 | d+1=>4 * UN d+5
theorem Y4:∀ d,8≤Qn d∧1≤UN d
 | 0=>⟨aaJ _,aaJ _⟩
 | d+1=>by have:=Y4 d;unfold Qn UN;omega
theorem kM (ay:Bool):∀ d,abL (bB ay d) (Qn d) (UN d)
 | 0=>⟨fun s=>(BU _ (Nat.mod_lt _ (by decide)) s.tl).1,fun s=>Nat.le_of_eq (BU _ (Nat.mod_lt _ (by decide)) s.tl).2⟩
 | d+1=>by
  have a:=kM ay d;have b:=Y4 d
  refine⟨fun s=>?_,fun s=>?_⟩
  ·rw [bB];split
   ·rename_i e;have:=(BU _ e s.tl).1;unfold Qn;omega
   split
   ·exact (Zt ay a s.nx s.tl).1
   ·exact (MC ay a s.nx s.tl).1
  ·rw [bB];split
   ·rename_i e;have:=(BU _ e s.tl).2;unfold UN;rw [this];show s.ns.length+1≤_;omega
   split
   ·exact (Zt ay a s.nx s.tl).2
   ·exact (MC ay a s.nx s.tl).2
end Mist
