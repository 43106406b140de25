/-
  A part of the proof.
-/
import Derived.Test.YthepmkjggfijoaaGreatDoorSA
import Derived.Test.YthepmkjggfijoaaGreatDoorJ04
set_option linter.all false
set_option maxRecDepth 100000
namespace Mist
def tl (I:Pcs):Nat:=(aN I).length
theorem tl_nil:tl []=0:=rfl
theorem tl_cons (g:Bs)(k:Nat)(t:Bs)(I:Pcs):tl ((g,k,t) :: I)=g.length+t.length+tl I:=by
 unfold tl;rw [aN];simp only [aaO];omega
theorem tl_sgn (t:Bs)(I:Pcs):tl (sgn t :: I)=t.length+tl I:=by
 unfold sgn;rw [tl_cons];simp
theorem tl_append (I J:Pcs):tl (I ++ J)=tl I+tl J:=by unfold tl;rw [qZ,aaO]
theorem tl_on (g:Bs)(I:Pcs):tl (Pcs.on g I)≤g.length+tl I:=by
 cases I with
 | nil=>show 0≤_;omega
 | cons x I =>
  obtain⟨h,k,t⟩:=x
  show tl ((g ++ h,k,t) :: I)≤_
  rw [tl_cons,tl_cons,aaO];omega
theorem gap_le (wild:Bool)(s:abd):(acP wild s).length≤8:=by
 unfold acP;split
 ·have:∀ g ∈ gapsG,g.length≤8:=by decide
  exact this _ (sg_mem gapsG _ (by show s.nx % 6 < 6;omega))
 ·decide
theorem wordG_le (b:Nat):(acM b).length≤4:=by
 have:∀ g ∈ wordsG,g.length≤4:=by decide
 exact this _ (wordG_mem b)
theorem opG_le (k:Nat):(sg opsG k).length≤3:=by
 by_cases h:k < 13
 ·have:∀ g ∈ opsG,g.length≤3:=by decide
  exact this _ (sg_mem opsG _ h)
 ·have:sg opsG k=[]:=by unfold sg;rw [aaH,List.getElem?_eq_none (by show 13≤k;omega)];rfl
  rw [this];simp
theorem someP_le (wild:Bool)(I:Pcs)(s:abd):tl (someP wild I s)≤tl I+12:=by
 have a:=gap_le wild s.tl;unfold someP;split
 ·rw [List.cons_append,List.cons_append,tl_sgn,tl_sgn,tl_append,tl_cons,tl_sgn,tl_nil]
  show 1+(1+(tl I+((acP wild s.tl).length+1+(1+0))))≤_
  omega
 ·rw [List.cons_append,tl_sgn,tl_append,tl_sgn,tl_nil]
  show 1+(tl I+(1+0))≤_
  omega
theorem itoa_le:∀ n:Fin 140,(Go.Lib.itoa ((n.val:Nat):Int)).length≤3:=by decide +kernel
theorem numPc_le (n:Int)(h1:-140 < n)(h2:n < 140):tl (numPc n)≤4:=by
 unfold numPc;split
 ·obtain⟨m,a⟩:∃ m:Nat,-n=(m:Int):=⟨(-n).toNat,by omega⟩;rw [a,tl_cons,tl_cons,tl_nil]
  have:=itoa_le ⟨m,by omega⟩
  simp only [List.length_cons,List.length_nil] at *
  omega
 ·obtain⟨m,a⟩:∃ m:Nat,n=(m:Int):=⟨n.toNat,by omega⟩;rw [a,tl_cons,tl_nil]
  have:=itoa_le ⟨m,by omega⟩
  simp only [List.length_nil] at *
  omega
structure abL (E:abd→abb) (L C:Nat):Prop where
 text:∀ s,tl (E s).pc≤L
 nodes:∀ s,(E s).st.ns.length≤s.ns.length+C
theorem leaf_bd (b:Nat)(a:b < 60)(s:abd):tl (leafG b s).pc≤8∧(leafG b s).st.ns.length=s.ns.length+1:=by
 unfold leafG;split
 ·exact⟨Nat.le_trans (numPc_le ((b * 7:Nat):Int) (by omega) (by omega)) (by omega),aaO⟩
 ·split
  ·refine⟨?_,aaO⟩
   show tl [([],3,_)]≤8
   rw [tl_cons];split <;> decide
  ·refine⟨?_,aaO⟩
   show tl [([],1,_)]≤8
   have:=wordG_le b
   rw [tl_cons,tl_nil];simp only [List.length_nil];omega
section
variable (wild:Bool) {E:abd→abb} {L C:Nat} (h:abL E L C)
include h
theorem list_bd:∀ (m:Nat) (r:aa'),tl (acU wild E m r).pc≤tl r.pc+m * (L+9)∧(acU wild E m r).st.ns.length≤r.st.ns.length+m * C∧(acU wild E m r).ix.length=r.ix.length+m
 | 0,r=>⟨by rw [acU];omega,by rw [acU];omega,rfl⟩
 | m+1,r=>by
  rw [acU];have b:(m+1) * (L+9)=m * (L+9)+(L+9):=Nat.succ_mul _ _;have c:(m+1) * C=m * C+C:=Nat.succ_mul _ _;simp only
  split
  ·have a:=list_bd m ⟨r.pc ++ (E r.st).pc,r.ix ++ [(E r.st).ix],(E r.st).st⟩;have h1:=h.text r.st;have h2:=h.nodes r.st;simp only [tl_append,aaO,aaT] at a
   exact⟨by omega,by omega,by omega⟩
  ·have a:=list_bd m ⟨r.pc ++ (sgn [44] :: Pcs.on (acP wild r.st) (E (acJ wild r.st)).pc),r.ix ++ [(E (acJ wild r.st)).ix],(E (acJ wild r.st)).st⟩;have h1:=h.text (acJ wild r.st);have h2:=h.nodes (acJ wild r.st);have h3:=tl_on (acP wild r.st) (E (acJ wild r.st)).pc;have h4:=gap_le wild r.st;rw [acI] at h2
   simp only [tl_append,tl_sgn,aaO,aaT] at a
   exact⟨by omega,by omega,by omega⟩
theorem puts_bd:∀ (m:Nat) (r:aa'),tl (putsG wild E m r).pc≤tl r.pc+m * (L+14)∧(putsG wild E m r).st.ns.length≤r.st.ns.length+m * (C+1)∧(putsG wild E m r).ix.length=r.ix.length+m
 | 0,r=>⟨by rw [putsG];omega,by rw [putsG];omega,rfl⟩
 | m+1,r=>by
  rw [putsG];have f:(m+1) * (L+14)=m * (L+14)+(L+14):=Nat.succ_mul _ _;have g:(m+1) * (C+1)=m * (C+1)+(C+1):=Nat.succ_mul _ _;obtain⟨a,b⟩:∃ a,a=if r.ix=[] then r.st else acJ wild r.st:=⟨_,rfl⟩
  have c:a.ns=r.st.ns:=by rw [b];split;rfl;exact acI wild r.st
  simp only [← b];have h1:=h.text a.tl;have h2:=h.nodes a.tl;have h3:=gap_le wild r.st;have h4:=wordG_le a.nx
  have i:tl (if r.ix=[] then (([],1,acM a.nx) :: sgn [58] :: (E a.tl).pc:Pcs) else (acP wild r.st,4,[44]) :: ([],1,acM a.nx) :: sgn [58] :: (E a.tl).pc)≤L+14:=by
   split
   ·rw [tl_cons,tl_sgn];simp only [List.length_nil,aaT];omega
   ·rw [tl_cons,tl_cons,tl_sgn];simp only [List.length_nil,aaT];omega
  have d:=puts_bd m ⟨r.pc ++ (if r.ix=[] then (([],1,acM a.nx) :: sgn [58] :: (E a.tl).pc:Pcs) else (acP wild r.st,4,[44]) :: ([],1,acM a.nx) :: sgn [58] :: (E a.tl).pc),r.ix ++ [(E a.tl).st.id],(E a.tl).st.put ⟨25,acM a.nx,0,[(E a.tl).ix],0⟩⟩;have e:((E a.tl).st.put ⟨25,acM a.nx,0,[(E a.tl).ix],0⟩).ns.length=(E a.tl).st.ns.length+1:=aaO;have h2:(E a.tl).st.ns.length≤r.st.ns.length+C:=by rw [← c];exact h2
  simp only [tl_append,aaO,aaT] at d
  rw [e] at d
  exact⟨by omega,by omega,by omega⟩
theorem op_bd (b:Nat)(s:abd):tl (opG wild E b s).pc≤4 * L+100∧(opG wild E b s).st.ns.length≤s.ns.length+(4 * C+5):=by
 unfold opG;have h1:=h.text s;have h2:=h.nodes s;have h3:=h.text (E s).st;have h4:=h.nodes (E s).st;split
 ·unfold notG acV;simp only
  constructor
  ·refine Nat.le_trans (someP_le wild _ _) ?_;have h5:=tl_on (acP wild (E s).st) (E s).pc;have h6:=gap_le wild (E s).st;split
   ·rw [tl_cons];simp only [List.length_cons,List.length_nil];omega
   ·rw [tl_sgn];simp only [List.length_cons,List.length_nil];omega
  ·show (_ ++ [_]).length≤_
   rw [aaO,someS_ns,acI];simp only [aaT];omega
 ·unfold binG acV;simp only
  constructor
  ·refine Nat.le_trans (someP_le wild _ _) ?_;have h5:=tl_on (acP wild (acJ wild (E (E s).st).st)) (E (E s).st).pc;have h6:=gap_le wild (E (E s).st).st;have h7:=gap_le wild (acJ wild (E (E s).st).st);have h8:=opG_le (b % 13);rw [tl_append,tl_cons];omega
  ·show (_ ++ [_]).length≤_
   rw [aaO,someS_ns,acI,acI];simp only [aaT];omega
theorem comp_bd (b:Nat)(s:abd):tl (compG wild E b s).pc≤4 * L+100∧(compG wild E b s).st.ns.length≤s.ns.length+(4 * C+5):=by
 have m:=wordG_le s.nx;unfold compG;simp only
 have e:s.tl.ns=s.ns:=rfl;rw [← e]
 generalize s.tl=s' at *
 generalize acM s.nx=x at *
 clear e;have h1:=h.text s';have h2:=h.nodes s';have h3:=h.text (E s').st;have h4:=h.nodes (E s').st;have h5:=h.text (E (E s').st).st;have h6:=h.nodes (E (E s').st).st;have on:=fun (w:Bool) (z:abd) (I:Pcs)=>Nat.le_trans (tl_on (acP w z) I) (Nat.add_le_add_right (gap_le w z) _)
 have a:=gap_le wild;split
 ·unfold ifG acV;simp only
  constructor
  ·refine Nat.le_trans (someP_le wild _ _) ?_;simp only [tl_append,tl_cons,List.length_cons,List.length_nil];have j:=on wild (E (E (E s').st).st).st (E s').pc;have k:=on wild (acJ wild (acJ wild (E (E (E s').st).st).st)) (E (E s').st).pc;have n:=on wild (acJ wild (acJ wild (acJ wild (acJ wild (E (E (E s').st).st).st)))) (E (E (E s').st).st).pc;have d:=a (acJ wild (E (E (E s').st).st).st);have i:=a (acJ wild (acJ wild (acJ wild (E (E (E s').st).st).st)));omega
  ·show (_ ++ [_]).length≤_
   rw [aaO,someS_ns,acI,acI,acI,acI,acI];simp only [aaT];omega
 split
 ·unfold letG acV;simp only
  constructor
  ·refine Nat.le_trans (someP_le wild _ _) ?_;simp only [tl_append,tl_cons,List.length_cons,List.length_nil];have k:=on wild (acJ wild (acJ wild (acJ wild (E (E s').st).st))) (E (E s').st).pc;have d:=a (E (E s').st).st;have i:=a (acJ wild (E (E s').st).st);have l:=a (acJ wild (acJ wild (E (E s').st).st));omega
  ·show (_ ++ [_]).length≤_
   rw [aaO,someS_ns,acI,acI,acI,acI];simp only [aaT];omega
 split
 ·unfold callG acV;simp only
  obtain⟨l1,c,_⟩:=list_bd wild h (s'.nx % 4) ⟨[],[],s'.tl⟩;rw [tl_nil] at l1
  have c:(acU wild E (s'.nx % 4) ⟨[],[],s'.tl⟩).st.ns.length≤s'.ns.length+s'.nx % 4 * C:=c;have f:s'.nx % 4 * (L+9)≤3 * (L+9):=Nat.mul_le_mul_right _ (by omega);have g:s'.nx % 4 * C≤3 * C:=Nat.mul_le_mul_right _ (by omega);constructor
  ·simp only [tl_append,tl_cons,tl_sgn,tl_nil,List.length_cons,List.length_nil];have d:=a (acU wild E (s'.nx % 4) ⟨[],[],s'.tl⟩).st;omega
  ·show (_ ++ [_]).length≤_
   rw [aaO,acI];simp only [aaT];omega
 split
 ·unfold fieldG acV;simp only
  constructor
  ·simp only [tl_append,tl_cons,tl_sgn,tl_nil,List.length_cons,List.length_nil];have d:=a (E s').st;omega
  ·show (_ ++ [_]).length≤_
   rw [aaO,acI];simp only [aaT];omega
 split
 ·unfold indexG acV;simp only
  constructor
  ·simp only [tl_append,tl_cons,tl_sgn,tl_nil,List.length_cons,List.length_nil];have d:=a (E (E s').st).st;omega
  ·show (_ ++ [_]).length≤_
   rw [aaO,acI];simp only [aaT];omega
 split
 ·unfold arrayG acV;simp only
  obtain⟨l1,c,_⟩:=list_bd wild h (1+s'.nx % 4) ⟨[],[],s'.tl⟩;rw [tl_nil] at l1
  have c:(acU wild E (1+s'.nx % 4) ⟨[],[],s'.tl⟩).st.ns.length≤s'.ns.length+(1+s'.nx % 4) * C:=c;have f:(1+s'.nx % 4) * (L+9)≤4 * (L+9):=Nat.mul_le_mul_right _ (by omega);have g:(1+s'.nx % 4) * C≤4 * C:=Nat.mul_le_mul_right _ (by omega);constructor
  ·simp only [tl_append,tl_cons,tl_sgn,tl_nil,List.length_cons,List.length_nil];have j:=on wild (acU wild E (1+s'.nx % 4) ⟨[],[],s'.tl⟩).st (acU wild E (1+s'.nx % 4) ⟨[],[],s'.tl⟩).pc;omega
  ·show (_ ++ [_]).length≤_
   rw [aaO,acI];simp only [aaT];omega
 ·unfold recG acV;simp only
  obtain⟨l1,c,_⟩:=puts_bd wild h (1+b % 3) ⟨[],[],s'⟩;rw [tl_nil] at l1
  have c:(putsG wild E (1+b % 3) ⟨[],[],s'⟩).st.ns.length≤s'.ns.length+(1+b % 3) * (C+1):=c;have f:(1+b % 3) * (L+14)≤3 * (L+14):=Nat.mul_le_mul_right _ (by omega);have g:(1+b % 3) * (C+1)≤3 * (C+1):=Nat.mul_le_mul_right _ (by omega);constructor
  ·simp only [tl_append,tl_cons,tl_sgn,tl_nil,List.length_cons,List.length_nil];have d:=a (putsG wild E (1+b % 3) ⟨[],[],s'⟩).st;omega
  ·show (_ ++ [_]).length≤_
   rw [aaO,acI];simp only [aaT];omega
end
def abN:Nat→Nat
 | 0=>8
 | d+1=>4 * abN d+100
def abM:Nat→Nat
 | 0=>1
 | d+1=>4 * abM d+5
theorem bd_ge:∀ d,8≤abN d∧1≤abM d
 | 0=>⟨aaJ _,aaJ _⟩
 | d+1=>by have:=bd_ge d;unfold abN abM;omega
theorem expr_bd (wild:Bool):∀ d,abL (acN wild d) (abN d) (abM d)
 | 0=>⟨fun s=>(leaf_bd _ (Nat.mod_lt _ (by decide)) s.tl).1,fun s=>Nat.le_of_eq (leaf_bd _ (Nat.mod_lt _ (by decide)) s.tl).2⟩
 | d+1=>by
  have a:=expr_bd wild d;have b:=bd_ge d
  refine⟨fun s=>?_,fun s=>?_⟩
  ·rw [acN];split
   ·rename_i e;have:=(leaf_bd _ e s.tl).1;unfold abN;omega
   split
   ·exact (op_bd wild a s.nx s.tl).1
   ·exact (comp_bd wild a s.nx s.tl).1
  ·rw [acN];split
   ·rename_i e;have:=(leaf_bd _ e s.tl).2;unfold abM;rw [this];show s.ns.length+1≤_;omega
   split
   ·exact (op_bd wild a s.nx s.tl).2
   ·exact (comp_bd wild a s.nx s.tl).2
end Mist
