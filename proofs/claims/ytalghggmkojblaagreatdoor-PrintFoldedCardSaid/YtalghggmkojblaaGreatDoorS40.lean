/-
  A part of the proof.
-/
import Derived.Test.YtalghggmkojblaaGreatDoorS36
import Derived.Test.YtalghggmkojblaaGreatDoorS38
import Derived.Test.YtalghggmkojblaaGreatDoorS39
set_option linter.all false
set_option maxRecDepth 100000
set_option maxHeartbeats 4000000
namespace Mist
def tl (I:eO):Nat:=(ah I).length
theorem iX:tl []=0:=rfl
theorem eu (g:Bs)(k:Nat)(t:Bs)(I:eO):tl ((g,k,t) :: I)=g.length+t.length+tl I:=by
 unfold tl;rw [ah];simp only [amQ];omega
theorem jM (t:Bs)(I:eO):tl (gu t :: I)=t.length+tl I:=by
 unfold gu;rw [eu];simp
theorem gN (I J:eO):tl (I ++ J)=tl I+tl J:=by unfold tl;rw [aX,amQ]
theorem Kj (g:Bs)(I:eO):tl (eO.on g I)≤g.length+tl I:=by
 cases I with
 | nil=>show 0≤_;omega
 | cons x I =>
  obtain⟨h,k,t⟩:=x
  show tl ((g ++ h,k,t) :: I)≤_
  rw [eu,eu,amQ];omega
theorem nL (wild:Bool)(s:Gs):(dQ wild s).length≤8:=by
 unfold dQ;split
 ·have:∀ g ∈ xR,g.length≤8:=by decide
  exact this _ (wh xR _ (by show s.nx % 6 < 6;omega))
 ·decide
theorem kF (b:Nat):(dD b).length≤4:=by
 have:∀ g ∈ pG,g.length≤4:=by decide
 exact this _ (Km b)
theorem ab6 (k:Nat):(sg Pb k).length≤3:=by
 by_cases h:k < 13
 ·have:∀ g ∈ Pb,g.length≤3:=by decide
  exact this _ (wh Pb _ h)
 ·have:sg Pb k=[]:=by unfold sg;rw [amJ,List.getElem?_eq_none (by show 13≤k;omega)];rfl
  rw [this];simp
theorem Ct (wild:Bool)(I:eO)(s:Gs):tl (mI wild I s)≤tl I+12:=by
 have a:=nL wild s.tl;unfold mI;split
 ·rw [List.cons_append,List.cons_append,jM,jM,gN,eu,jM,iX]
  show 1+(1+(tl I+((dQ wild s.tl).length+1+(1+0))))≤_
  omega
 ·rw [List.cons_append,jM,gN,jM,iX]
  show 1+(tl I+(1+0))≤_
  omega
theorem wK:∀ n:Fin 140,(Go.Lib.itoa ((n.val:Nat):Int)).length≤3:=by decide +kernel
theorem OZ (n:Int)(h1:-140 < n)(h2:n < 140):tl (pQ n)≤4:=by
 unfold pQ;split
 ·obtain⟨m,a⟩:∃ m:Nat,-n=(m:Int):=⟨(-n).toNat,by omega⟩;rw [a,eu,eu,iX]
  have:=wK ⟨m,by omega⟩
  simp only [List.length_cons,List.length_nil] at *
  omega
 ·obtain⟨m,a⟩:∃ m:Nat,n=(m:Int):=⟨n.toNat,by omega⟩;rw [a,eu,iX]
  have:=wK ⟨m,by omega⟩
  simp only [List.length_nil] at *
  omega
structure Bd (E:Gs→Gr) (L C:Nat):Prop where
 text:∀ s,tl (E s).pc≤L
 nodes:∀ s,(E s).st.ns.length≤s.ns.length+C
theorem EU (b:Nat)(a:b < 60)(s:Gs):tl (nA b s).pc≤8∧(nA b s).st.ns.length=s.ns.length+1:=by
 unfold nA;split
 ·exact⟨Nat.le_trans (OZ ((b * 7:Nat):Int) (by omega) (by omega)) (by omega),amQ⟩
 ·split
  ·refine⟨?_,amQ⟩
   show tl [([],3,_)]≤8
   rw [eu];split <;> decide
  ·refine⟨?_,amQ⟩
   show tl [([],1,_)]≤8
   have:=kF b
   rw [eu,iX];simp only [List.length_nil];omega
section
variable (wild:Bool) {E:Gs→Gr} {L C:Nat} (h:Bd E L C)
include h
theorem wL:∀ (m:Nat) (r:Gl),tl (eP wild E m r).pc≤tl r.pc+m * (L+9)∧(eP wild E m r).st.ns.length≤r.st.ns.length+m * C∧(eP wild E m r).ix.length=r.ix.length+m
 | 0,r=>⟨by rw [eP];omega,by rw [eP];omega,rfl⟩
 | m+1,r=>by
  rw [eP];have b:(m+1) * (L+9)=m * (L+9)+(L+9):=Nat.succ_mul _ _;have c:(m+1) * C=m * C+C:=Nat.succ_mul _ _;simp only
  split
  ·have a:=wL m ⟨r.pc ++ (E r.st).pc,r.ix ++ [(E r.st).ix],(E r.st).st⟩;have h1:=h.text r.st;have h2:=h.nodes r.st;simp only [gN,amQ,amV] at a
   exact⟨by omega,by omega,by omega⟩
  ·have a:=wL m ⟨r.pc ++ (gu [44] :: eO.on (dQ wild r.st) (E (aM wild r.st)).pc),r.ix ++ [(E (aM wild r.st)).ix],(E (aM wild r.st)).st⟩;have h1:=h.text (aM wild r.st);have h2:=h.nodes (aM wild r.st);have h3:=Kj (dQ wild r.st) (E (aM wild r.st)).pc;have h4:=nL wild r.st;rw [aO] at h2
   simp only [gN,jM,amQ,amV] at a
   exact⟨by omega,by omega,by omega⟩
theorem VE:∀ (m:Nat) (r:Gl),tl (jw wild E m r).pc≤tl r.pc+m * (L+14)∧(jw wild E m r).st.ns.length≤r.st.ns.length+m * (C+1)∧(jw wild E m r).ix.length=r.ix.length+m
 | 0,r=>⟨by rw [jw];omega,by rw [jw];omega,rfl⟩
 | m+1,r=>by
  rw [jw];have f:(m+1) * (L+14)=m * (L+14)+(L+14):=Nat.succ_mul _ _;have i:(m+1) * (C+1)=m * (C+1)+(C+1):=Nat.succ_mul _ _;obtain⟨a,b⟩:∃ a,a=if r.ix=[] then r.st else aM wild r.st:=⟨_,rfl⟩
  have c:a.ns=r.st.ns:=by rw [b];split;rfl;exact aO wild r.st
  simp only [← b];have h1:=h.text a.tl;have h2:=h.nodes a.tl;have h3:=nL wild r.st;have h4:=kF a.nx
  have j:tl (if r.ix=[] then (([],1,dD a.nx) :: gu [58] :: (E a.tl).pc:eO) else (dQ wild r.st,4,[44]) :: ([],1,dD a.nx) :: gu [58] :: (E a.tl).pc)≤L+14:=by
   split
   ·rw [eu,jM];simp only [List.length_nil,amV];omega
   ·rw [eu,eu,jM];simp only [List.length_nil,amV];omega
  have d:=VE m ⟨r.pc ++ (if r.ix=[] then (([],1,dD a.nx) :: gu [58] :: (E a.tl).pc:eO) else (dQ wild r.st,4,[44]) :: ([],1,dD a.nx) :: gu [58] :: (E a.tl).pc),r.ix ++ [(E a.tl).st.id],(E a.tl).st.put ⟨25,dD a.nx,0,[(E a.tl).ix],0⟩⟩;have e:((E a.tl).st.put ⟨25,dD a.nx,0,[(E a.tl).ix],0⟩).ns.length=(E a.tl).st.ns.length+1:=amQ;have h2:(E a.tl).st.ns.length≤r.st.ns.length+C:=by rw [← c];exact h2
  simp only [gN,amQ,amV] at d
  rw [e] at d
  exact⟨by omega,by omega,by omega⟩
theorem afG (b:Nat)(s:Gs):tl (Ir wild E b s).pc≤4 * L+100∧(Ir wild E b s).st.ns.length≤s.ns.length+(4 * C+5):=by
 unfold Ir;have h1:=h.text s;have h2:=h.nodes s;have h3:=h.text (E s).st;have h4:=h.nodes (E s).st;split
 ·unfold Gx d9;simp only
  constructor
  ·refine Nat.le_trans (Ct wild _ _) ?_;have h5:=Kj (dQ wild (E s).st) (E s).pc;have h6:=nL wild (E s).st;split
   ·rw [eu];simp only [List.length_cons,List.length_nil];omega
   ·rw [jM];simp only [List.length_cons,List.length_nil];omega
  ·show (_ ++ [_]).length≤_
   rw [amQ,eH,aO];simp only [amV];omega
 ·unfold Nw d9;simp only
  constructor
  ·refine Nat.le_trans (Ct wild _ _) ?_;have h5:=Kj (dQ wild (aM wild (E (E s).st).st)) (E (E s).st).pc;have h6:=nL wild (E (E s).st).st;have h7:=nL wild (aM wild (E (E s).st).st);have h8:=ab6 (b % 13);rw [gN,eu];omega
  ·show (_ ++ [_]).length≤_
   rw [amQ,eH,aO,aO];simp only [amV];omega
theorem U0 (b:Nat)(s:Gs):tl (jd wild E b s).pc≤4 * L+100∧(jd wild E b s).st.ns.length≤s.ns.length+(4 * C+5):=by
 have n:=kF s.nx;unfold jd;simp only
 have e:s.tl.ns=s.ns:=rfl;rw [← e]
 generalize s.tl=s' at *
 generalize dD s.nx=x at *
 clear e;have h1:=h.text s';have h2:=h.nodes s';have h3:=h.text (E s').st;have h4:=h.nodes (E s').st;have h5:=h.text (E (E s').st).st;have h6:=h.nodes (E (E s').st).st;have on:=fun (w:Bool) (z:Gs) (I:eO)=>Nat.le_trans (Kj (dQ w z) I) (Nat.add_le_add_right (nL w z) _)
 have a:=nL wild;split
 ·unfold ifG d9;simp only
  constructor
  ·refine Nat.le_trans (Ct wild _ _) ?_;simp only [gN,eu,List.length_cons,List.length_nil];have k:=on wild (E (E (E s').st).st).st (E s').pc;have l:=on wild (aM wild (aM wild (E (E (E s').st).st).st)) (E (E s').st).pc;have q:=on wild (aM wild (aM wild (aM wild (aM wild (E (E (E s').st).st).st)))) (E (E (E s').st).st).pc;have d:=a (aM wild (E (E (E s').st).st).st);have j:=a (aM wild (aM wild (aM wild (E (E (E s').st).st).st)));omega
  ·show (_ ++ [_]).length≤_
   rw [amQ,eH,aO,aO,aO,aO,aO];simp only [amV];omega
 split
 ·unfold OU d9;simp only
  constructor
  ·refine Nat.le_trans (Ct wild _ _) ?_;simp only [gN,eu,List.length_cons,List.length_nil];have l:=on wild (aM wild (aM wild (aM wild (E (E s').st).st))) (E (E s').st).pc;have d:=a (E (E s').st).st;have j:=a (aM wild (E (E s').st).st);have m:=a (aM wild (aM wild (E (E s').st).st));omega
  ·show (_ ++ [_]).length≤_
   rw [amQ,eH,aO,aO,aO,aO];simp only [amV];omega
 split
 ·unfold D5 d9;simp only
  obtain⟨l1,c,_⟩:=wL wild h (s'.nx % 4) ⟨[],[],s'.tl⟩;rw [iX] at l1
  have c:(eP wild E (s'.nx % 4) ⟨[],[],s'.tl⟩).st.ns.length≤s'.ns.length+s'.nx % 4 * C:=c;have f:s'.nx % 4 * (L+9)≤3 * (L+9):=Nat.mul_le_mul_right _ (by omega);have i:s'.nx % 4 * C≤3 * C:=Nat.mul_le_mul_right _ (by omega);constructor
  ·simp only [gN,eu,jM,iX,List.length_cons,List.length_nil];have d:=a (eP wild E (s'.nx % 4) ⟨[],[],s'.tl⟩).st;omega
  ·show (_ ++ [_]).length≤_
   rw [amQ,aO];simp only [amV];omega
 split
 ·unfold vO d9;simp only
  constructor
  ·simp only [gN,eu,jM,iX,List.length_cons,List.length_nil];have d:=a (E s').st;omega
  ·show (_ ++ [_]).length≤_
   rw [amQ,aO];simp only [amV];omega
 split
 ·unfold vQ d9;simp only
  constructor
  ·simp only [gN,eu,jM,iX,List.length_cons,List.length_nil];have d:=a (E (E s').st).st;omega
  ·show (_ ++ [_]).length≤_
   rw [amQ,aO];simp only [amV];omega
 split
 ·unfold vE d9;simp only
  obtain⟨l1,c,_⟩:=wL wild h (1+s'.nx % 4) ⟨[],[],s'.tl⟩;rw [iX] at l1
  have c:(eP wild E (1+s'.nx % 4) ⟨[],[],s'.tl⟩).st.ns.length≤s'.ns.length+(1+s'.nx % 4) * C:=c;have f:(1+s'.nx % 4) * (L+9)≤4 * (L+9):=Nat.mul_le_mul_right _ (by omega);have i:(1+s'.nx % 4) * C≤4 * C:=Nat.mul_le_mul_right _ (by omega);constructor
  ·simp only [gN,eu,jM,iX,List.length_cons,List.length_nil];have k:=on wild (eP wild E (1+s'.nx % 4) ⟨[],[],s'.tl⟩).st (eP wild E (1+s'.nx % 4) ⟨[],[],s'.tl⟩).pc;omega
  ·show (_ ++ [_]).length≤_
   rw [amQ,aO];simp only [amV];omega
 ·unfold PG d9;simp only
  obtain⟨l1,c,_⟩:=VE wild h (1+b % 3) ⟨[],[],s'⟩;rw [iX] at l1
  have c:(jw wild E (1+b % 3) ⟨[],[],s'⟩).st.ns.length≤s'.ns.length+(1+b % 3) * (C+1):=c;have f:(1+b % 3) * (L+14)≤3 * (L+14):=Nat.mul_le_mul_right _ (by omega);have i:(1+b % 3) * (C+1)≤3 * (C+1):=Nat.mul_le_mul_right _ (by omega);constructor
  ·simp only [gN,eu,jM,iX,List.length_cons,List.length_nil];have d:=a (jw wild E (1+b % 3) ⟨[],[],s'⟩).st;omega
  ·show (_ ++ [_]).length≤_
   rw [amQ,aO];simp only [amV];omega
end
def Lb:Nat→Nat
 | 0=>8
 | d+1=>4 * Lb d+100
def Cb:Nat→Nat
 | 0=>1
 | d+1=>4 * Cb d+5
theorem afr:∀ d,8≤Lb d∧1≤Cb d
 | 0=>⟨amL _,amL _⟩
 | d+1=>by have:=afr d;unfold Lb Cb;omega
theorem l7 (wild:Bool):∀ d,Bd (dx wild d) (Lb d) (Cb d)
 | 0=>⟨fun s=>(EU _ (Nat.mod_lt _ (by decide)) s.tl).1,fun s=>Nat.le_of_eq (EU _ (Nat.mod_lt _ (by decide)) s.tl).2⟩
 | d+1=>by
  have a:=l7 wild d;have b:=afr d
  refine⟨fun s=>?_,fun s=>?_⟩
  ·rw [dx];split
   ·rename_i e;have:=(EU _ e s.tl).1;unfold Lb;omega
   split
   ·exact (afG wild a s.nx s.tl).1
   ·exact (U0 wild a s.nx s.tl).1
  ·rw [dx];split
   ·rename_i e;have:=(EU _ e s.tl).2;unfold Cb;rw [this];show s.ns.length+1≤_;omega
   split
   ·exact (afG wild a s.nx s.tl).2
   ·exact (U0 wild a s.nx s.tl).2
end Mist
namespace Go.Proofs.YtalghggmkojblaaGreatDoor
open Go.RowKit Mist
attribute [local go_sem] ak aN aV aF aj
theorem aaZ (w:World)(k:Nat)(os:Array Obj):Below w.heap.size w (Go.Sort.grow (w.drewN k) os) :=
 ⟨rfl,rfl,rfl,by show w.heap.size≤(w.heap ++ os).size;rw [Array.size_append];omega,fun b a=>Array.getElem?_append_left a⟩
theorem uD (n:Int)(h0:-1000000≤n)(h1:n≤1000000)(g:Nat)(wild:Bool)(iv:Value)(w:World)(s:Gs)(xs:List NV)(nv lv:Value)(h:PL g wild iv w s xs nv lv) :
  Calls Tryz.prog 33 #[.int .i64 n] w fun e a=>e=.returned (.string (aG (Go.Lib.itoa n)))∧Below w.heap.size w a:=by
 refine (Tryz.strconv_Itoa n (by omega) (by omega) w h.pow.here).mono ?_;rintro e a ⟨rfl,k,os,rfl⟩;exact⟨rfl,aaZ w k os⟩
def mF (g:Nat)(wild:Bool)(iv:Value)(w:World)(xs:List NV)(nv:Value)(r:Gr)(e:Ending)(w':World):Prop :=
 e=.returned (.tuple #[.string (aG (ah r.pc)),.int .i64 r.ix])∧∃ xs' gY nH,PL g wild iv w' r.st xs' gY nH∧Gw g w xs nv w' xs' gY
def EC (wild:Bool)(d N:Nat):Prop:=∀ (g:Nat) (iv:Value) (w:World) (s:Gs) (xs:List NV) (nv lv:Value),PL g wild iv w s xs nv lv→s.ns.length≤N →
 Calls Tryz.prog 34 #[.pointer (some ⟨g,0,none⟩),.int .i64 (d:Int)] w (mF g wild iv w xs nv (dx wild d s))
section
variable {g:Nat} {wild:Bool} {iv:Value} {w w1 w2:World} {xs xs1:List NV} {nv ji lv:Value} {s s1:Gs}
theorem Gw.O9 (xs:List NV)(m:Mv g nv.ownBlock w nv.ownBlock w1):Gw g w xs nv w1 xs nv:=⟨m,[],by simp,fun y hy=>by cases hy⟩
theorem Gw.IZ (h:Gw g w xs nv w1 xs1 ji)(k:Mv g ji.ownBlock w1 ji.ownBlock w2):Gw g w xs nv w2 xs1 ji:=⟨h.mv.trans k,h.new⟩
theorem Gw.vW {d:Value}{x:NV}(h:Gw g w xs nv w1 xs1 ji)(k:Mv g ji.ownBlock w1 d.ownBlock w2)(f:∀ b,x.2.ownBlock=some b→w.heap.size≤b):Gw g w xs nv w2 (xs1 ++ [x]) d:=by
 obtain⟨i,e,hy⟩:=h.new
 refine⟨h.mv.trans k,i ++ [x],by rw [e,List.append_assoc],fun y a b c=>?_⟩
 rcases List.mem_append.1 a with a | a
 ·exact hy y a b c
 ·rw [List.mem_singleton.1 a] at c;exact f b c
end
theorem Yn (r:Nat)(h:r < 2)(w:World):Sem.run Tryz.prog (Instr.index 90 (.agg #[.string ⟨#[102,97,108,115,101]⟩,.string ⟨#[116,114,117,101]⟩]) (.int .i64 r)) w=.ok (.string (aG (if r=0 then [102,97,108,115,101] else [116,114,117,101]))) w:=by
 obtain rfl | rfl:r=0∨r=1:=by omega
 all_goals kernel_rfl
theorem Gz (n:Int):ah (pQ n)=Go.Lib.itoa n:=by
 unfold pQ;split
 ·rename_i h
  show [] ++ ([45] ++ ([] ++ (Go.Lib.itoa (-n) ++ [])))=_
  unfold Go.Lib.itoa;rw [if_pos h,if_neg (by omega)];simp only [List.nil_append,List.append_nil];rw [show (-n).toNat=n.natAbs by omega];rfl
 ·show [] ++ (Go.Lib.itoa n ++ [])=_
  simp
theorem mg (g:Bs)(k:Nat)(t:Bs):ah [(g,k,t)]=g ++ t:=by show g ++ (t ++ [])=_;rw [List.append_nil]
theorem Jr (d:Int)(hd:0≤d)(g:Nat)(wild:Bool)(iv:Value)(w:World)(s:Gs)(xs:List NV)(nv lv:Value)(h:PL g wild iv w s xs nv lv)(Z:s.ns.length≤950000)(b:Nat)(Y:b < 60)(k:(d=0∧b=s.nx % 60)∨(0 < d∧b=s.nx)) :
  Calls Tryz.prog 34 #[.pointer (some ⟨g,0,none⟩),.int .i64 d] w (mF g wild iv w xs nv (nA b s.tl)):=by
 have H:=O h;clear h;have U:=O (show (d=0∧b=s.nx % 60)∨(0 < d∧b=s.nx) from k);have m:s.tl.ns.length≤1000000:=by show s.ns.length≤_;omega
 have l:∃ x:Nat,s.nx=x∧((d=0∧Int.tmod (x:Int) 60=(b:Int))∨(0 < d∧b=x)):=⟨s.nx,rfl,by
  rcases k with ⟨h1,h2⟩ | ⟨h1,h2⟩
  ·exact .inl ⟨h1,by rw [Int.tmod_eq_emod_of_nonneg (by omega),h2];omega⟩
  ·exact .inr ⟨h1,h2⟩⟩
 obtain⟨x,P,D⟩:=l;have A:=O P;clear k P U;by_cases h20:b < 20
 ·have n:=O (show nA b s.tl=d9 (pQ ((b:Int) * 7)) s.tl ⟨1,[],(b:Int) * 7,[],0⟩ by unfold nA;rw [if_pos h20,show ((b * 7:Nat):Int)=(b:Int) * 7 by omega]);have I:(b:Int) < 20:=by omega
  have zw:IntKind.i64.wrap ((b:Int) * 7)=(b:Int) * 7:=IntWalk.i64_in _ (by omega);go_in
  go_wp2_with fail;refine (fD g wild iv _ s xs nv lv H.o).mono ?_;rintro e w1⟨rfl,c,h1,f⟩;have i:=O h1;have u:=O (Gw.O9 xs f);clear h1 f;rw [A.o];rcases D with ⟨rfl,M⟩ | ⟨y,rfl⟩
  all_goals
   go_wp2_with fail;refine (uD _ (by omega) (by omega) g wild iv _ s.tl xs nv c i.o).mono ?_;rintro e w2⟨rfl,j⟩;have S:=O (i.o.below j);have V:=O (u.o.o_ j);clear j;go_wp2_with fail;refine (iD g wild iv _ s.tl xs nv c S.o 1 [] _ _ [] (dw.none_ _) m).mono ?_;rintro e R⟨rfl,t,h3,a⟩;have q:=O h3;have v:=O (V.o.vW (x:=(⟨1,[],(b:Int) * 7,[],0⟩,.slice none 0 0)) a pX);clear h3 a;go_wp2_with fail;go_ret2
   rw [n.o];exact⟨by show _=Ending.returned (.tuple #[.string (aG (ah (pQ ((b:Int) * 7)))),.int .i64 s.tl.id]);rw [Gz];rfl,_,t,c,q.o,v.o⟩
 have I:¬ (b:Int) < 20:=by omega
 by_cases K:b < 30
 ·obtain⟨r,F⟩:∃ r,r=b % 2:=⟨_,rfl⟩;have n:=O (show nA b s.tl=d9 [([],3,if r=0 then [102,97,108,115,101] else [116,114,117,101])] s.tl ⟨2,[],(r:Int),[],0⟩ by unfold nA;rw [if_neg h20,if_pos K,F]);have J:(b:Int) < 30:=by omega
  have W:Int.tmod (b:Int) 2=(r:Int):=by rw [Int.tmod_eq_emod_of_nonneg (by omega),F];omega
  have G:r < 2:=by omega
  have Q:=Yn r G;obtain⟨T,B⟩:∃ T:Bs,T=if r=0 then [102,97,108,115,101] else [116,114,117,101]:=⟨_,rfl⟩
  rw [← B] at n
  have N:∀ w,Sem.run Tryz.prog (Instr.index 90 (.agg #[.string ⟨#[102,97,108,115,101]⟩,.string ⟨#[116,114,117,101]⟩]) (.int .i64 r)) w=.ok (.string (aG T)) w:=by rw [B];exact Q
  clear Q;have z0:(0:Int)≤(r:Int):=by omega
  have z1:(r:Int) < 2:=by omega
  clear F B;go_in
  go_wp2_with fail;refine (fD g wild iv _ s xs nv lv H.o).mono ?_;rintro e w1⟨rfl,c,h1,f⟩;have i:=O h1;have u:=O (Gw.O9 xs f);clear h1 f;rw [A.o];rcases D with ⟨rfl,M⟩ | ⟨y,rfl⟩
  all_goals
   go_wp2_with fail;go_region_held3 (fun _=>True) (trivial) ((go_at_call 30;refine (iD g wild iv _ s.tl xs nv c (by first | exact i.o | exact i.o.drew) 2 [] _ _ [] (dw.none_ _) m).mono ?_;rintro e R⟨rfl,t,h3,a⟩;have q:=O h3;have v:=O (u.o.vW (x:=(⟨2,[],(r:Int),[],0⟩,.slice none 0 0)) (by first | exact a | exact (Mv.RV Mv.refl).trans a) pX);clear h3 a))
   all_goals
    go_wp2_with fail;go_ret2
    rw [n.o];exact⟨by show _=Ending.returned (.tuple #[.string (aG (ah [([],3,T)])),.int .i64 s.tl.id]);rw [mg];rfl,_,t,c,q.o,v.o⟩
 have J:¬ (b:Int) < 30:=by omega
 have n:=O (show nA b s.tl=d9 [([],1,dD b)] s.tl ⟨3,dD b,0,[],0⟩ by unfold nA;rw [if_neg h20,if_neg K]);have X:(b:Int) < 60:=by omega
 go_in
 go_wp2_with fail;refine (fD g wild iv _ s xs nv lv H.o).mono ?_;rintro e w1⟨rfl,c,h1,f⟩;have i:=O h1;have u:=O (Gw.O9 xs f);clear h1 f;rw [A.o];rcases D with ⟨rfl,M⟩ | ⟨y,rfl⟩
 all_goals
  go_wp2_with fail;refine (jk b _).mono ?_;rintro e w2⟨rfl,rfl⟩;go_wp2_with fail;refine (jk b _).mono ?_;rintro e w2⟨rfl,rfl⟩;go_wp2_with fail;refine (iD g wild iv _ s.tl xs nv c i.o 3 (dD b) _ _ [] (dw.none_ _) m).mono ?_;rintro e R⟨rfl,t,h3,a⟩;have q:=O h3;have v:=O (u.o.vW (x:=(⟨3,dD b,0,[],0⟩,.slice none 0 0)) a pX);clear h3 a;go_wp2_with fail;go_ret2
  rw [n.o];exact⟨by show _=Ending.returned (.tuple #[.string (aG (ah [([],1,dD b)])),.int .i64 s.tl.id]);rw [mg];rfl,_,t,c,q.o,v.o⟩
theorem BM {I:eO}(h:EI I)(g:Bs):ah (eO.on g I)=g ++ ah I:=h.start.text g
def Rt (g:Nat)(wild:Bool)(iv:Value)(w:World)(xs:List NV)(nv:Value)(r:Gl)(e:Ending)(w':World):Prop :=
 ∃ A c xs' gY nH,e=.returned (.tuple #[.string (aG (ah r.pc)),.slice A r.ix.length c])∧LG w w' xs' (.slice A r.ix.length c) r.ix∧PL g wild iv w' r.st xs' gY nH∧Gw g w xs nv w' xs' gY
theorem EL:∀ d,d≤Lb d
 | 0=>amN _
 | d+1=>by have:=EL d;unfold Lb;omega
theorem GY (wild:Bool)(d:Nat)(N:Nat)(hN:N≤900000)(hE:EC wild d (N+50000))(hL:Lb d≤100000)(hC:Cb d≤10000)(m:Nat)(hm:m≤4)(g:Nat)(iv:Value)(w:World)(s:Gs)(xs:List NV)(nv lv:Value)(h:PL g wild iv w s xs nv lv)(hn:s.ns.length≤N) :
  Calls Tryz.prog 62 #[.pointer (some ⟨g,0,none⟩),.int .i64 (m:Int),.int .i64 ((d:Int)+1)] w (Rt g wild iv w xs nv (eP wild (dx wild d) m ⟨[],[],s⟩)):=by
 have H0:=O h;have M0:=O (Gw.refl (g:=g) (w:=w) (xs:=xs) (nv:=nv));clear h;have hg0:=H0.o.lt;obtain⟨j0,hj0,hy0,hy1,hy2⟩:=info_parts jq;have BE:=O (l7 wild d);have HL:=O (LG.empty (w0:=w) H0.o rfl (amL _));have U:=O (H0.o.alloc (.cells #[] 3));have M1:=O (M0.o.gT (o:=.cells #[] 3));have V:=O hE;have hdl:=EL d;have zd:IntKind.i64.wrap ((d:Int)+1 - 1)=(d:Int):=by rw [Int.add_sub_cancel];exact IntWalk.i64_in _ ⟨by omega,by omega⟩
 clear hE H0 M0;go_in
 go_wp2_with fail;go_loopw [8,9,10] (fun sv l0 i wr=>∃ (k:Nat) (r:Gl) (A:Option Addr) (c:Nat) (xs1:List NV) (ji oH:Value),k≤m∧i=.int .i64 k∧sv=.string (aG (ah r.pc))∧l0=.slice A r.ix.length c∧Hid (r.ix.length=k)∧(ah r.pc).length≤k * 100009∧r.st.ns.length≤N+k * 10000∧Hid (eP wild (dx wild d) (m - k) r=eP wild (dx wild d) m ⟨[],[],s⟩)∧Hid (Y9 r)∧Hid (LG w wr xs1 (.slice A r.ix.length c) r.ix)∧Hid (PL g wild iv wr r.st xs1 ji oH)∧Hid (Gw g w xs nv wr xs1 ji)) (fun _ _ i _=>m - (intOf i).toNat)
 case atStart=>exact⟨0,⟨[],[],s⟩,_,_,xs,nv,lv,amN _,rfl,rfl,rfl,O rfl,by simp [ah],by simpa using hn,O rfl,O (li0 s),HL,U,M1⟩
 case round =>
  clear HL U M1;obtain⟨wo,rfl⟩:∃ wo:World,wo=wr:=⟨_,rfl⟩;obtain⟨k,r,A,c,xs1,ji,oH,hk,rfl,rfl,rfl,q,hlen,hnl,W,HI,L,H,M⟩:=hrel;by_cases y:k < m
  ·obtain⟨R,hmm⟩:∃ R,m - k=R+1:=⟨m - k - 1,by omega⟩;have Oq:m - (k+1)=R:=by omega
   rw [hmm] at W
   have xu:=O Oq;clear hmm Oq;have HX:=O (show ah r.pc=ah r.pc from rfl);obtain⟨X,hX⟩:∃ X,X=ah r.pc:=⟨_,rfl⟩;rw [← hX] at hlen ⊢
   replace HX:=O hX
   clear hX;by_cases K:k=0
   ·subst K;have v:r.ix=[]:=List.eq_nil_of_length_eq_zero q.o;have S:=O (show eP wild (dx wild d) (R+1) r=eP wild (dx wild d) R ⟨r.pc ++ (dx wild d r.st).pc,r.ix ++ [(dx wild d r.st).ix],(dx wild d r.st).st⟩ by rw [eP,if_pos v]);have l:=O (show Y9 ⟨r.pc ++ (dx wild d r.st).pc,r.ix ++ [(dx wild d r.st).ix],(dx wild d r.st).st⟩ from ⟨fun h=>by simp at h,fun _=>by show EI (r.pc ++ _);rw [HI.o.1 v];exact jN wild d _⟩);clear v;go_wp2_with fail;refine (V.o g iv _ r.st xs1 ji oH H.o (by omega)).mono ?_;rintro e w2⟨rfl,xs2,Cx,EW,h2,Q⟩;have B:=O h2;have M2:=O (M.o.trans Q);have L2:=O (L.o.mw H.o Q);clear h2 Q;have I:=BE.o.text r.st;have bn:=BE.o.nodes r.st;obtain⟨a,J⟩:∃ a,a=dx wild d r.st:=⟨_,rfl⟩;rw [← J] at S B I bn ⊢
    obtain⟨T,x⟩:∃ T,T=ah a.pc:=⟨_,rfl⟩;have hTl:T.length≤100000:=by rw [x];exact Nat.le_trans I hL
    rw [← x];have Z:=O x;rw [← J] at l
    clear x J I;have n:=O (L2.o.alloc (.cells #[.int .i64 a.ix] 3));have D:=O (B.o.alloc (.cells #[.int .i64 a.ix] 3));have F:=O (M2.o.gT (o:=(.cells #[.int .i64 a.ix] 3)));have u:=F.o.size;have hxl:¬ 9223372036854775807 < X.length+T.length:=by omega
    have hrl:r.ix.length≤4:=by have:=q.o;omega
    go_wp2_with (at_builtin;go_loud (refine wpList_append_lies _ rfl (.tmp 36) (.tmp 38) 26 rfl 0 3 j0 (.int .i64 0) 1 8 Tryz.underlying26 hj0 hy0 hy1 hy2 rfl (by decide) _ r.ix.length (intCells r.ix) rfl n.o.row ⟨w2.heap.size,0,none⟩ 1 1 [.int .i64 a.ix] rfl rfl (cell_one_new _ _ _) (by simp [Value.oneCell']) (by omega) (by simp only [maxLen];omega) (by omega) (amN _) _ rfl ?_);intro Sc FQ x9 j f t y;have L3:=O (n.o.grow D.o j t u);have H3:=O (D.o.grow n.o f (fun b hb=>amM (amY hg0 (n.o.lo b hb))));have M3:=O (F.o.grow n.o f);clear j f t y)
    clear n D F u L2 B M2;exact⟨⟨0+1,_,_,_,_,_,_,by omega,by go_num,congrArg Value.string (congrArg aG (show X ++ T=ah (r.pc ++ a.pc) by rw [aX,HX.o,Z.o])),by rw [amQ];rfl,O (by rw [amQ,q.o];rfl),by rw [aX,← HX.o,← Z.o,amQ];omega,by show a.st.ns.length≤_;omega,O (by show eP wild (dx wild d) (m - (0+1)) _=_;rw [xu.o,← S.o,W.o]),l,by rw [amQ];exact L3,H3,M3⟩,by simp [intOf];omega⟩
   ·have P:r.ix ≠ []:=fun h=>K (by rw [← q.o,h];rfl)
    have S:=O (show eP wild (dx wild d) (R+1) r=eP wild (dx wild d) R ⟨r.pc ++ (gu [44] :: eO.on (dQ wild r.st) (dx wild d (aM wild r.st)).pc),r.ix ++ [(dx wild d (aM wild r.st)).ix],(dx wild d (aM wild r.st)).st⟩ by rw [eP,if_neg P])
    have l:=O (show Y9 ⟨r.pc ++ (gu [44] :: eO.on (dQ wild r.st) (dx wild d (aM wild r.st)).pc),r.ix ++ [(dx wild d (aM wild r.st)).ix],(dx wild d (aM wild r.st)).st⟩ from by
     have:=oz wild (jN wild d) 1 r HI.o
     rw [eP,if_neg P,eP] at this
     exact this)
    have xM:=O ((jN wild d (aM wild r.st)).start.text (dQ wild r.st));have zk:(0:Int) < (k:Int):=by omega
    clear P K;go_wp2_with fail;refine (iC g wild iv _ r.st xs1 ji oH H.o).mono ?_;rintro e w1⟨rfl,lvg,h1,m1⟩;have U:=O h1;have M1:=O (M.o.IZ m1);have L1:=O (L.o.mv H.o m1);clear h1 m1;have hGl:=iR wild r.st;obtain⟨G,hG⟩:∃ G,G=dQ wild r.st:=⟨_,rfl⟩;rw [← hG] at hGl S l xM ⊢
    have hx1:¬ 9223372036854775807 < 1+G.length:=by omega
    have hx2:¬ 9223372036854775807 < X.length+(1+G.length):=by omega
    clear hG H M L;go_wp2_with fail;obtain⟨Y,hY⟩:∃ Y,Y=X ++ ([44] ++ G):=⟨_,rfl⟩;have hYl:Y.length=X.length+(1+G.length):=by rw [hY,amQ,amQ];rfl
    rw [show (aG X ++ ((⟨#[44]⟩:ByteArray) ++ aG G))=aG Y from by rw [hY,← aj,← aj];rfl];have HY:=O hY;clear hY hx1 hx2;refine (V.o g iv _ (aM wild r.st) xs1 ji lvg U.o (by rw [aO];omega)).mono ?_;rintro e w2⟨rfl,xs2,Cx,EW,h2,Q⟩;have B:=O h2;have M2:=O (M1.o.trans Q);have L2:=O (L1.o.mw U.o Q);clear h2 Q;have I:=BE.o.text (aM wild r.st);have bn:=BE.o.nodes (aM wild r.st);obtain⟨a,J⟩:∃ a,a=dx wild d (aM wild r.st):=⟨_,rfl⟩;rw [← J] at S B I bn ⊢
    obtain⟨T,x⟩:∃ T,T=ah a.pc:=⟨_,rfl⟩;rw [aO] at bn
    have hTl:T.length≤100000:=by rw [x];exact Nat.le_trans I hL
    rw [← x];have Z:=O x;rw [← J] at l xM
    clear x J I;have n:=O (L2.o.alloc (.cells #[.int .i64 a.ix] 3));have D:=O (B.o.alloc (.cells #[.int .i64 a.ix] 3));have F:=O (M2.o.gT (o:=(.cells #[.int .i64 a.ix] 3)));have u:=F.o.size;have hxl:¬ 9223372036854775807 < Y.length+T.length:=by omega
    have hrl:r.ix.length≤4:=by have:=q.o;omega
    go_wp2_with (at_builtin;go_loud (refine wpList_append_lies _ rfl (.tmp 36) (.tmp 38) 26 rfl 0 3 j0 (.int .i64 0) 1 8 Tryz.underlying26 hj0 hy0 hy1 hy2 rfl (by decide) _ r.ix.length (intCells r.ix) rfl n.o.row ⟨w2.heap.size,0,none⟩ 1 1 [.int .i64 a.ix] rfl rfl (cell_one_new _ _ _) (by simp [Value.oneCell']) (by omega) (by simp only [maxLen];omega) (by omega) (amN _) _ rfl ?_);intro Sc FQ x9 j f t y;have L3:=O (n.o.grow D.o j t u);have H3:=O (D.o.grow n.o f (fun b hb=>amM (amY hg0 (n.o.lo b hb))));have M3:=O (F.o.grow n.o f);clear j f t y)
    clear n D F u L2 B M2
    exact⟨⟨k+1,_,_,_,_,_,_,by omega,by go_num,congrArg Value.string (congrArg aG (show Y ++ T=ah (r.pc ++ (gu [44] :: eO.on G a.pc)) by
     rw [aX,HY.o,HX.o,Z.o]
     show _=ah r.pc ++ ([] ++ ([44] ++ ah (eO.on G a.pc)))
     rw [xM.o];simp only [List.nil_append,List.append_assoc])),by rw [amQ];rfl,O (by rw [amQ,q.o];rfl),by
      rw [show ah (r.pc ++ (gu [44] :: eO.on G a.pc))=Y ++ T from by
       rw [aX,HY.o,HX.o,Z.o]
       show ah r.pc ++ ([] ++ ([44] ++ ah (eO.on G a.pc)))=_
       rw [xM.o];simp only [List.nil_append,List.append_assoc],amQ]
      omega,by show a.st.ns.length≤_;omega,O (by rw [xu.o,← S.o,W.o]),l,by rw [amQ];exact L3,H3,M3⟩,by simp [intOf];omega⟩
  ·obtain rfl:k=m:=by omega
   have HRR:=O (show eP wild (dx wild d) k ⟨[],[],s⟩=r by rw [← W.o,Nat.sub_self];rfl);clear W;go_wp2_with fail;go_ret2
   rw [HRR.o];exact⟨A,c,xs1,ji,oH,rfl,L.o,H.o,M.o⟩
