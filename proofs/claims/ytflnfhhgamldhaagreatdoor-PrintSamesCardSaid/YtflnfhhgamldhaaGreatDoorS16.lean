/-
  A part of the proof.
-/
import Derived.Test.YtflnfhhgamldhaaGreatDoorS15
set_option linter.all false
set_option maxRecDepth 100000
set_option maxHeartbeats 4000000
namespace Go.Proofs.YtflnfhhgamldhaaGreatDoor
section
open Go.RowKit Mist
structure IntsIn (w:World) (A:Option Addr) (ks:List Int):Prop where
 ex:0 < ks.length→∃ b o,A=some ⟨b,o,none⟩∧b < w.heap.size∧∀ (j:Nat) k,ks[j]? = some k→w.cell? ⟨b,o+j,none⟩=some (.int .i64 k)
theorem IntsIn.below {w d:World}{A:Option Addr}{ks:List Int}(h:IntsIn w A ks)(a:Below w.heap.size w d):IntsIn d A ks :=
 ⟨fun h0=>by
  obtain⟨b,o,e,c,f⟩:=h.ex h0;exact⟨b,o,e,alb c a.size,fun j k l=>(a.cell (by exact c)).trans (f j k l)⟩⟩
structure rU (w:World) (b o:Nat) (xs:List NV):Prop where
 kids:zM w b o xs
 c0:∀ (i:Nat) x,xs[i]? = some x→w.cell? ⟨b,o+i * 5,none⟩=some (.int .u8 x.1.kind)
 c1:∀ (i:Nat) x,xs[i]? = some x→w.cell? ⟨b,o+i * 5+1,none⟩=some (.string (aH x.1.text))
 c2:∀ (i:Nat) x,xs[i]? = some x→w.cell? ⟨b,o+i * 5+2,none⟩=some (.int .i64 x.1.n)
 c4:∀ (i:Nat) x,xs[i]? = some x→w.cell? ⟨b,o+i * 5+4,none⟩=some (.int .i64 x.1.at_)
theorem rU.lt {w:World}{b o:Nat}{xs:List NV}(h:rU w b o xs):b < w.heap.size:=h.kids.lt
theorem rU.c3 {w:World}{b o:Nat}{xs:List NV}(h:rU w b o xs)(i:Nat)(x:NV)(a:xs[i]? = some x):w.cell? ⟨b,o+i * 5+3,none⟩=some x.2:=h.kids.kv i x a
theorem rU.below {w d:World}{b o:Nat}{xs:List NV}(h:rU w b o xs)(c:Below w.heap.size w d):rU d b o xs :=
 ⟨h.kids.below c,fun i x a=>(c.cell (by exact h.lt)).trans (h.c0 i x a),fun i x a=>(c.cell (by exact h.lt)).trans (h.c1 i x a),fun i x a=>(c.cell (by exact h.lt)).trans (h.c2 i x a),fun i x a=>(c.cell (by exact h.lt)).trans (h.c4 i x a)⟩
theorem rU.kid {w:World}{b o:Nat}{xs:List NV}(h:rU w b o xs){i:Nat}{x:NV}(a:xs[i]? = some x):∃ A c,x.2=.slice A x.1.kids.length c∧x.1.kids.length≤1000000∧IntsIn w A x.1.kids:=by
 obtain⟨A,c,h1,h2,h3⟩:=h.kids.kids x (ak3 a);exact⟨A,c,h1,h2,⟨h3⟩⟩
structure rQ (w:World) (A B:Option Addr) (xs:List NV) (its:List Int):Prop where
 nodes:0 < xs.length→∃ b o,A=some ⟨b,o,none⟩∧rU w b o xs
 items:IntsIn w B its
theorem rQ.below {w d:World}{A B:Option Addr}{xs:List NV}{a:List Int}(h:rQ w A B xs a)(c:Below w.heap.size w d):rQ d A B xs a :=
 ⟨fun h0=>by obtain⟨b,o,e,f⟩:=h.nodes h0;exact⟨b,o,e,f.below c⟩,h.items.below c⟩
structure NdR (n:Nd):Prop where
 kind:n.kind < 256
 text:n.text.length≤100000000
 num:qE≤n.n∧n.n≤lD
 place:qE≤n.at_∧n.at_≤lD
 kids:∀ c ∈ n.kids,qE≤c∧c≤lD
def Dt (ns:List Nd):Prop:=∀ n ∈ ns,NdR n
theorem vB {xs:List NV}{i:Nat}{x:NV}(h:xs[i]? = some x):(aF xs)[i]? = some x.1:=by unfold aF;rw [List.getElem?_map,h];rfl
theorem bI {xs:List NV}{i:Nat}{x:NV}(a:List Int)(h:xs[i]? = some x):nd ⟨aF xs,a⟩ i=x.1:=mE (t:=⟨aF xs,a⟩) (vB h)
theorem lF {xs:List NV}{i:Nat}(h:i < xs.length):∃ x,xs[i]? = some x:=⟨_,akU h⟩
theorem Hw:∀ (xs:List NV) (i k:Nat) (x:NV),xs[i]? = some x→k < 5→(jK xs)[i * 5+k]? = (iL x)[k]?
 | [],_,_,_,h,_=>by simp at h
 | y :: r,0,k,x,h,hk=>by
  have:y=x:=by simpa using h
  subst this;rw [show jK (y :: r)=iL y ++ jK r from rfl,List.getElem?_append_left (by simp [iL];omega)];simp
 | y :: r,i+1,k,x,h,hk=>by
  rw [show jK (y :: r)=iL y ++ jK r from rfl,List.getElem?_append_right (by simp [iL];omega)];have e:(i+1) * 5+k - (iL y).length=i * 5+k:=by simp [iL];omega
  rw [e];exact Hw r i k x (by simpa using h) hk
theorem yR {w:World}{base:Nat}{A:Option Addr}{n c:Nat}{ks:List Int}(h:w.ownsRow base 3 1 (.slice A n c) n (intCells ks))(e:n=ks.length):IntsIn w A ks:=by
 subst e
 refine⟨fun h0=>?_⟩
 obtain⟨g,cap,hv,_,a⟩:=h.form h0;have b:A=some ⟨g,0,none⟩:=by injection hv
 subst b
 refine⟨g,0,rfl,a,fun j k d=>?_⟩
 have:=h.cells (g:=g) rfl j (.int .i64 k) (by simp [intCells,d])
 rw [xQ] at this
 exact this
theorem AJ {w:World}{base:Nat}{A:Option Addr}{c:Nat}{xs:List NV}(h:w.ownsRow base 50 5 (.slice A xs.length c) xs.length (jK xs))(h0:0 < xs.length)(r:∀ x ∈ xs,∃ l,w.ownsRow l 3 1 x.2 x.1.kids.length (intCells x.1.kids))(e:∀ x ∈ xs,x.1.kids.length≤1000000):∃ g,A=some ⟨g,0,none⟩∧rU w g 0 xs:=by
 obtain⟨g,cap,hv,_,f⟩:=h.form h0;have q:A=some ⟨g,0,none⟩:=by injection hv
 subst q
 have b:∀ (i k:Nat) x u,xs[i]? = some x→k < 5→(iL x)[k]? = some u→w.cell? ⟨g,0+(i * 5+k),none⟩=some u:=by
  intro i k x u a d t
  have:=h.cells (g:=g) rfl (i * 5+k) u (by rw [Hw xs i k x a d];exact t)
  rw [xQ] at this
  exact this
 refine⟨g,rfl,⟨f,fun i x a=>?_,fun x a=>?_⟩,fun i x a=>?_,fun i x a=>?_,fun i x a=>?_,fun i x a=>?_⟩
 ·exact b i 3 x _ a (by omega) rfl
 ·obtain⟨l,j⟩:=r x a;obtain⟨n,o,m⟩:=d_ j;rw [m] at j
  exact⟨n,o,m,e x a,(yR j rfl).ex⟩
 ·exact b i 0 x _ a (by omega) rfl
 ·exact b i 1 x _ a (by omega) rfl
 ·exact b i 2 x _ a (by omega) rfl
 ·exact b i 4 x _ a (by omega) rfl
theorem rH.tAt {g:Nat}{w:World}{v:Value}{xs:List NV}{a:List Int}(h:rH g w v xs a)(b:∀ x ∈ xs,x.1.kids.length≤1000000):∃ A B c d,v=.agg #[.slice A xs.length c,.slice B a.length d]∧rQ w A B xs a:=by
 obtain⟨⟨nv,iv,q,rfl,h1,rfl,h2⟩,j⟩:=h;obtain⟨A,c,rfl⟩:=d_ h1;obtain⟨B,d,rfl⟩:=d_ h2
 refine⟨A,B,c,d,rfl,fun h0=>?_,yR h2 rfl⟩
 obtain⟨f,e,k⟩:=AJ h1 h0 (fun x l=>⟨_,j x l⟩) b;exact⟨f,0,e,k⟩
end
section
open Go.RowKit Mist
def iC:List (Nat × Value)→Nat→List MapEntry
 | [],_=>[]
 | (k,v) :: r,i=>⟨.int .u8 k,v,i⟩ :: iC r (i+1)
def qW (x:Nat):List (Nat × Value)→Option Value
 | []=>none
 | (k,v) :: r=>if x=k then some v else qW x r
theorem zU (x:Nat):∀ (l:List (Nat × Value)) (i j:Nat),∃ n,Instr.findNow (.int .u8) (.int .u8 x) (iC l j) i=some ((qW x l).map fun v=>(n,v))
 | [],i,j=>⟨0,rfl⟩
 | (k,v) :: r,i,j=>by
  simp only [iC,qW,Instr.findNow,Instr.sameNow,if_true];by_cases h:x=k
  ·subst h;exact⟨i,by simp⟩
  ·obtain⟨n,a⟩:=zU x r (i+1) (j+1);have h2:((x:Int) == (k:Int))=false:=by simp;omega
   exact⟨n,by simp only [h2,if_neg h,a]⟩
theorem Fp (b:Bool)(x:Int)(w:World):(Instr.checkKey b 10000 5 (.int .u8 x)).run Tryz.prog w=.ok () w :=
 MapKept.run_checkKey Tryz.underlying5 (by trivial) b 9999
theorem Ee (T E:TypeId)(z:Value)(a:Tryz.prog.underlying T=some (.map 5 E))(w:World)(h:(zeroValue E).run Tryz.prog w=.ok z w)(l:List (Nat × Value))(m c:Nat)(e:w.heap[m]? = some (.map (iC l 0).toArray c))(x:Nat) :
  (Instr.lookup T (.map (some m)) (.int .u8 x) false).run Tryz.prog w=.ok ((qW x l).getD z) w:=by
 have d:(getObj m).run Tryz.prog w=.ok (.map (iC l 0).toArray c) w:=MapKept.run_getObj_map e;obtain⟨n,f⟩:=zU x l 0 0
 have b:(Instr.findKey 5 (.int .u8 x) (iC l 0)).run Tryz.prog w=.ok ((qW x l).map fun v=>(n,v)) w:=by
  simp only [Instr.findKey,Sem.run_bind,run_underlying Tryz.underlying5,Result.andThen_ok,f];rfl
 unfold Instr.lookup;simp only [Sem.run_bind,run_underlying a,Result.andThen_ok,d,Fp,b,Sem.run_pure]
 cases qW x l with
 | none =>
  simp only [Option.map_none,Sem.run_bind,h,Result.andThen_ok,Sem.run_pure];rfl
 | some v =>
  simp only [Option.map_some,Sem.run_pure,Result.andThen_ok];rfl
theorem KV:∀ (l:List (Nat × Value)) (k:Nat) (v:Value) (i:Nat),iC (l ++ [(k,v)]) i=iC l i ++ [⟨.int .u8 k,v,i+l.length⟩]
 | [],_,_,_=>rfl
 | (a,b) :: r,k,v,i=>by
  simp only [List.cons_append,iC,KV r k v (i+1),List.length_cons];rw [show i+1+r.length=i+(r.length+1) by omega]
theorem iO (T E:TypeId)(c:Tryz.prog.underlying T=some (.map 5 E))(w:World)(l:List (Nat × Value))(k:Nat)(v:Value)(h:qW k l=none) :
  (Instr.mapUpdate T (.map (some w.heap.size)) (.int .u8 k) v).run Tryz.prog (w.alloc (.map (iC l 0).toArray l.length))=.ok () (w.alloc (.map (iC (l ++ [(k,v)]) 0).toArray (l.length+1))):=by
 have b:(w.alloc (.map (iC l 0).toArray l.length)).heap[w.heap.size]? = some (.map (iC l 0).toArray l.length):=heap_alloc_new w _;have f:(getObj w.heap.size).run Tryz.prog (w.alloc (.map (iC l 0).toArray l.length))=.ok (.map (iC l 0).toArray l.length) (w.alloc (.map (iC l 0).toArray l.length)):=MapKept.run_getObj_map b;obtain⟨n,a⟩:=zU k l 0 0;rw [h] at a
 have d:(Instr.findKey 5 (.int .u8 k) (iC l 0)).run Tryz.prog (w.alloc (.map (iC l 0).toArray l.length))=.ok none (w.alloc (.map (iC l 0).toArray l.length)):=by
  simp only [Instr.findKey,Sem.run_bind,run_underlying Tryz.underlying5,Result.andThen_ok,a];rfl
 have j:∀ o,(setObj w.heap.size o).run Tryz.prog (w.alloc (.map (iC l 0).toArray l.length))=.ok () (w.alloc o):=by
  intro o;rw [MapKept.run_setObj_map o b,heap_put];rfl
 have e:(iC l 0).toArray.push ⟨.int .u8 k,v,l.length⟩=(iC (l ++ [(k,v)]) 0).toArray:=by
  rw [KV];simp
 unfold Instr.mapUpdate;simp only [Sem.run_bind,run_underlying c,Result.andThen_ok,f,Fp,d,j,e]
def Ii:List (Nat × Value):=[(19,.int .i64 1),(20,.int .i64 1),(18,.int .i64 2),(17,.int .i64 3),(5,.int .i64 4),(11,.int .i64 5),(12,.int .i64 5),(13,.int .i64 5),(14,.int .i64 5),(15,.int .i64 5),(16,.int .i64 5),(6,.int .i64 6),(7,.int .i64 6),(8,.int .i64 7),(9,.int .i64 7),(10,.int .i64 7),(4,.int .i64 8)]
def tK (k:Nat):Nat:=if k=19 then 1 else if k=20 then 1 else if k=18 then 2 else if k=17 then 3 else if k=5 then 4 else if k=11 then 5 else if k=12 then 5 else if k=13 then 5 else if k=14 then 5 else if k=15 then 5 else if k=16 then 5 else if k=6 then 6 else if k=7 then 6 else if k=8 then 7 else if k=9 then 7 else if k=10 then 7 else if k=4 then 8 else 0
theorem aaV (x:Nat):(qW x Ii).getD (.int .i64 0)=.int .i64 (tK x:Nat):=by
 by_cases h19:x=19
 ·subst h19;rfl
 by_cases h20:x=20
 ·subst h20;rfl
 by_cases h18:x=18
 ·subst h18;rfl
 by_cases h17:x=17
 ·subst h17;rfl
 by_cases h5:x=5
 ·subst h5;rfl
 by_cases h11:x=11
 ·subst h11;rfl
 by_cases h12:x=12
 ·subst h12;rfl
 by_cases h13:x=13
 ·subst h13;rfl
 by_cases h14:x=14
 ·subst h14;rfl
 by_cases h15:x=15
 ·subst h15;rfl
 by_cases h16:x=16
 ·subst h16;rfl
 by_cases h6:x=6
 ·subst h6;rfl
 by_cases h7:x=7
 ·subst h7;rfl
 by_cases h8:x=8
 ·subst h8;rfl
 by_cases h9:x=9
 ·subst h9;rfl
 by_cases h10:x=10
 ·subst h10;rfl
 by_cases h4:x=4
 ·subst h4;rfl
 simp [Ii,qW,tK,h19,h20,h18,h17,h5,h11,h12,h13,h14,h15,h16,h6,h7,h8,h9,h10,h4]
def qp (k:Nat):Bool:=decide (1≤k) && decide (k≤26) && decide (k ≠ 25)
def qG (k:Nat):Nat × Nat:=if qp k then (if tK k=0 then (9,0) else (tK k,0)) else (0,2)
theorem WH (w:World):(zeroValue 3).run Tryz.prog w=.ok (.int .i64 0) w:=by kernel_rfl
theorem Z_ (w:World)(m c:Nat)(a:w.heap[m]? = some (.map (iC Ii 0).toArray c))(x:Nat):(Instr.lookup 193 (.map (some m)) (.int .u8 x) false).run Tryz.prog w=.ok (.int .i64 (tK x:Nat)) w:=by
 have h:=Ee 193 3 (.int .i64 0) Tryz.underlying193 w (WH w) Ii m c a x;rw [h,aaV]
theorem VN (w:World):Calls Tryz.prog 191 #[] w fun e l=>e=.returned (.map (some w.heap.size))∧l=w.alloc (.map (iC Ii 0).toArray 17):=by
 have a:=@run_makeMap Tryz.prog;have m:(Instr.mapUpdate 193 (.map (some w.heap.size)) (.int .u8 19) (.int .i64 1)).run Tryz.prog (w.alloc (.map #[] 0))=.ok () (w.alloc (.map (iC [(19,.int .i64 1)] 0).toArray 1)):=iO 193 3 Tryz.underlying193 w [] 19 (.int .i64 1) (by decide +kernel);have n:(Instr.mapUpdate 193 (.map (some w.heap.size)) (.int .u8 20) (.int .i64 1)).run Tryz.prog (w.alloc (.map (iC [(19,.int .i64 1)] 0).toArray 1))=.ok () (w.alloc (.map (iC [(19,.int .i64 1),(20,.int .i64 1)] 0).toArray 2)):=iO 193 3 Tryz.underlying193 w [(19,.int .i64 1)] 20 (.int .i64 1) (by decide +kernel);have o:(Instr.mapUpdate 193 (.map (some w.heap.size)) (.int .u8 18) (.int .i64 2)).run Tryz.prog (w.alloc (.map (iC [(19,.int .i64 1),(20,.int .i64 1)] 0).toArray 2))=.ok () (w.alloc (.map (iC [(19,.int .i64 1),(20,.int .i64 1),(18,.int .i64 2)] 0).toArray 3)):=iO 193 3 Tryz.underlying193 w [(19,.int .i64 1),(20,.int .i64 1)] 18 (.int .i64 2) (by decide +kernel);have q:(Instr.mapUpdate 193 (.map (some w.heap.size)) (.int .u8 17) (.int .i64 3)).run Tryz.prog (w.alloc (.map (iC [(19,.int .i64 1),(20,.int .i64 1),(18,.int .i64 2)] 0).toArray 3))=.ok () (w.alloc (.map (iC [(19,.int .i64 1),(20,.int .i64 1),(18,.int .i64 2),(17,.int .i64 3)] 0).toArray 4)):=iO 193 3 Tryz.underlying193 w [(19,.int .i64 1),(20,.int .i64 1),(18,.int .i64 2)] 17 (.int .i64 3) (by decide +kernel);have r:(Instr.mapUpdate 193 (.map (some w.heap.size)) (.int .u8 5) (.int .i64 4)).run Tryz.prog (w.alloc (.map (iC [(19,.int .i64 1),(20,.int .i64 1),(18,.int .i64 2),(17,.int .i64 3)] 0).toArray 4))=.ok () (w.alloc (.map (iC [(19,.int .i64 1),(20,.int .i64 1),(18,.int .i64 2),(17,.int .i64 3),(5,.int .i64 4)] 0).toArray 5)):=iO 193 3 Tryz.underlying193 w [(19,.int .i64 1),(20,.int .i64 1),(18,.int .i64 2),(17,.int .i64 3)] 5 (.int .i64 4) (by decide +kernel);have t:(Instr.mapUpdate 193 (.map (some w.heap.size)) (.int .u8 11) (.int .i64 5)).run Tryz.prog (w.alloc (.map (iC [(19,.int .i64 1),(20,.int .i64 1),(18,.int .i64 2),(17,.int .i64 3),(5,.int .i64 4)] 0).toArray 5))=.ok () (w.alloc (.map (iC [(19,.int .i64 1),(20,.int .i64 1),(18,.int .i64 2),(17,.int .i64 3),(5,.int .i64 4),(11,.int .i64 5)] 0).toArray 6)):=iO 193 3 Tryz.underlying193 w [(19,.int .i64 1),(20,.int .i64 1),(18,.int .i64 2),(17,.int .i64 3),(5,.int .i64 4)] 11 (.int .i64 5) (by decide +kernel);have u:(Instr.mapUpdate 193 (.map (some w.heap.size)) (.int .u8 12) (.int .i64 5)).run Tryz.prog (w.alloc (.map (iC [(19,.int .i64 1),(20,.int .i64 1),(18,.int .i64 2),(17,.int .i64 3),(5,.int .i64 4),(11,.int .i64 5)] 0).toArray 6))=.ok () (w.alloc (.map (iC [(19,.int .i64 1),(20,.int .i64 1),(18,.int .i64 2),(17,.int .i64 3),(5,.int .i64 4),(11,.int .i64 5),(12,.int .i64 5)] 0).toArray 7)):=iO 193 3 Tryz.underlying193 w [(19,.int .i64 1),(20,.int .i64 1),(18,.int .i64 2),(17,.int .i64 3),(5,.int .i64 4),(11,.int .i64 5)] 12 (.int .i64 5) (by decide +kernel);have v:(Instr.mapUpdate 193 (.map (some w.heap.size)) (.int .u8 13) (.int .i64 5)).run Tryz.prog (w.alloc (.map (iC [(19,.int .i64 1),(20,.int .i64 1),(18,.int .i64 2),(17,.int .i64 3),(5,.int .i64 4),(11,.int .i64 5),(12,.int .i64 5)] 0).toArray 7))=.ok () (w.alloc (.map (iC [(19,.int .i64 1),(20,.int .i64 1),(18,.int .i64 2),(17,.int .i64 3),(5,.int .i64 4),(11,.int .i64 5),(12,.int .i64 5),(13,.int .i64 5)] 0).toArray 8)):=iO 193 3 Tryz.underlying193 w [(19,.int .i64 1),(20,.int .i64 1),(18,.int .i64 2),(17,.int .i64 3),(5,.int .i64 4),(11,.int .i64 5),(12,.int .i64 5)] 13 (.int .i64 5) (by decide +kernel);have x:(Instr.mapUpdate 193 (.map (some w.heap.size)) (.int .u8 14) (.int .i64 5)).run Tryz.prog (w.alloc (.map (iC [(19,.int .i64 1),(20,.int .i64 1),(18,.int .i64 2),(17,.int .i64 3),(5,.int .i64 4),(11,.int .i64 5),(12,.int .i64 5),(13,.int .i64 5)] 0).toArray 8))=.ok () (w.alloc (.map (iC [(19,.int .i64 1),(20,.int .i64 1),(18,.int .i64 2),(17,.int .i64 3),(5,.int .i64 4),(11,.int .i64 5),(12,.int .i64 5),(13,.int .i64 5),(14,.int .i64 5)] 0).toArray 9)):=iO 193 3 Tryz.underlying193 w [(19,.int .i64 1),(20,.int .i64 1),(18,.int .i64 2),(17,.int .i64 3),(5,.int .i64 4),(11,.int .i64 5),(12,.int .i64 5),(13,.int .i64 5)] 14 (.int .i64 5) (by decide +kernel);have y:(Instr.mapUpdate 193 (.map (some w.heap.size)) (.int .u8 15) (.int .i64 5)).run Tryz.prog (w.alloc (.map (iC [(19,.int .i64 1),(20,.int .i64 1),(18,.int .i64 2),(17,.int .i64 3),(5,.int .i64 4),(11,.int .i64 5),(12,.int .i64 5),(13,.int .i64 5),(14,.int .i64 5)] 0).toArray 9))=.ok () (w.alloc (.map (iC [(19,.int .i64 1),(20,.int .i64 1),(18,.int .i64 2),(17,.int .i64 3),(5,.int .i64 4),(11,.int .i64 5),(12,.int .i64 5),(13,.int .i64 5),(14,.int .i64 5),(15,.int .i64 5)] 0).toArray 10)):=iO 193 3 Tryz.underlying193 w [(19,.int .i64 1),(20,.int .i64 1),(18,.int .i64 2),(17,.int .i64 3),(5,.int .i64 4),(11,.int .i64 5),(12,.int .i64 5),(13,.int .i64 5),(14,.int .i64 5)] 15 (.int .i64 5) (by decide +kernel);have b:(Instr.mapUpdate 193 (.map (some w.heap.size)) (.int .u8 16) (.int .i64 5)).run Tryz.prog (w.alloc (.map (iC [(19,.int .i64 1),(20,.int .i64 1),(18,.int .i64 2),(17,.int .i64 3),(5,.int .i64 4),(11,.int .i64 5),(12,.int .i64 5),(13,.int .i64 5),(14,.int .i64 5),(15,.int .i64 5)] 0).toArray 10))=.ok () (w.alloc (.map (iC [(19,.int .i64 1),(20,.int .i64 1),(18,.int .i64 2),(17,.int .i64 3),(5,.int .i64 4),(11,.int .i64 5),(12,.int .i64 5),(13,.int .i64 5),(14,.int .i64 5),(15,.int .i64 5),(16,.int .i64 5)] 0).toArray 11)):=iO 193 3 Tryz.underlying193 w [(19,.int .i64 1),(20,.int .i64 1),(18,.int .i64 2),(17,.int .i64 3),(5,.int .i64 4),(11,.int .i64 5),(12,.int .i64 5),(13,.int .i64 5),(14,.int .i64 5),(15,.int .i64 5)] 16 (.int .i64 5) (by decide +kernel);have c:(Instr.mapUpdate 193 (.map (some w.heap.size)) (.int .u8 6) (.int .i64 6)).run Tryz.prog (w.alloc (.map (iC [(19,.int .i64 1),(20,.int .i64 1),(18,.int .i64 2),(17,.int .i64 3),(5,.int .i64 4),(11,.int .i64 5),(12,.int .i64 5),(13,.int .i64 5),(14,.int .i64 5),(15,.int .i64 5),(16,.int .i64 5)] 0).toArray 11))=.ok () (w.alloc (.map (iC [(19,.int .i64 1),(20,.int .i64 1),(18,.int .i64 2),(17,.int .i64 3),(5,.int .i64 4),(11,.int .i64 5),(12,.int .i64 5),(13,.int .i64 5),(14,.int .i64 5),(15,.int .i64 5),(16,.int .i64 5),(6,.int .i64 6)] 0).toArray 12)):=iO 193 3 Tryz.underlying193 w [(19,.int .i64 1),(20,.int .i64 1),(18,.int .i64 2),(17,.int .i64 3),(5,.int .i64 4),(11,.int .i64 5),(12,.int .i64 5),(13,.int .i64 5),(14,.int .i64 5),(15,.int .i64 5),(16,.int .i64 5)] 6 (.int .i64 6) (by decide +kernel);have d:(Instr.mapUpdate 193 (.map (some w.heap.size)) (.int .u8 7) (.int .i64 6)).run Tryz.prog (w.alloc (.map (iC [(19,.int .i64 1),(20,.int .i64 1),(18,.int .i64 2),(17,.int .i64 3),(5,.int .i64 4),(11,.int .i64 5),(12,.int .i64 5),(13,.int .i64 5),(14,.int .i64 5),(15,.int .i64 5),(16,.int .i64 5),(6,.int .i64 6)] 0).toArray 12))=.ok () (w.alloc (.map (iC [(19,.int .i64 1),(20,.int .i64 1),(18,.int .i64 2),(17,.int .i64 3),(5,.int .i64 4),(11,.int .i64 5),(12,.int .i64 5),(13,.int .i64 5),(14,.int .i64 5),(15,.int .i64 5),(16,.int .i64 5),(6,.int .i64 6),(7,.int .i64 6)] 0).toArray 13)):=iO 193 3 Tryz.underlying193 w [(19,.int .i64 1),(20,.int .i64 1),(18,.int .i64 2),(17,.int .i64 3),(5,.int .i64 4),(11,.int .i64 5),(12,.int .i64 5),(13,.int .i64 5),(14,.int .i64 5),(15,.int .i64 5),(16,.int .i64 5),(6,.int .i64 6)] 7 (.int .i64 6) (by decide +kernel);have f:(Instr.mapUpdate 193 (.map (some w.heap.size)) (.int .u8 8) (.int .i64 7)).run Tryz.prog (w.alloc (.map (iC [(19,.int .i64 1),(20,.int .i64 1),(18,.int .i64 2),(17,.int .i64 3),(5,.int .i64 4),(11,.int .i64 5),(12,.int .i64 5),(13,.int .i64 5),(14,.int .i64 5),(15,.int .i64 5),(16,.int .i64 5),(6,.int .i64 6),(7,.int .i64 6)] 0).toArray 13))=.ok () (w.alloc (.map (iC [(19,.int .i64 1),(20,.int .i64 1),(18,.int .i64 2),(17,.int .i64 3),(5,.int .i64 4),(11,.int .i64 5),(12,.int .i64 5),(13,.int .i64 5),(14,.int .i64 5),(15,.int .i64 5),(16,.int .i64 5),(6,.int .i64 6),(7,.int .i64 6),(8,.int .i64 7)] 0).toArray 14)):=iO 193 3 Tryz.underlying193 w [(19,.int .i64 1),(20,.int .i64 1),(18,.int .i64 2),(17,.int .i64 3),(5,.int .i64 4),(11,.int .i64 5),(12,.int .i64 5),(13,.int .i64 5),(14,.int .i64 5),(15,.int .i64 5),(16,.int .i64 5),(6,.int .i64 6),(7,.int .i64 6)] 8 (.int .i64 7) (by decide +kernel);have h:(Instr.mapUpdate 193 (.map (some w.heap.size)) (.int .u8 9) (.int .i64 7)).run Tryz.prog (w.alloc (.map (iC [(19,.int .i64 1),(20,.int .i64 1),(18,.int .i64 2),(17,.int .i64 3),(5,.int .i64 4),(11,.int .i64 5),(12,.int .i64 5),(13,.int .i64 5),(14,.int .i64 5),(15,.int .i64 5),(16,.int .i64 5),(6,.int .i64 6),(7,.int .i64 6),(8,.int .i64 7)] 0).toArray 14))=.ok () (w.alloc (.map (iC [(19,.int .i64 1),(20,.int .i64 1),(18,.int .i64 2),(17,.int .i64 3),(5,.int .i64 4),(11,.int .i64 5),(12,.int .i64 5),(13,.int .i64 5),(14,.int .i64 5),(15,.int .i64 5),(16,.int .i64 5),(6,.int .i64 6),(7,.int .i64 6),(8,.int .i64 7),(9,.int .i64 7)] 0).toArray 15)):=iO 193 3 Tryz.underlying193 w [(19,.int .i64 1),(20,.int .i64 1),(18,.int .i64 2),(17,.int .i64 3),(5,.int .i64 4),(11,.int .i64 5),(12,.int .i64 5),(13,.int .i64 5),(14,.int .i64 5),(15,.int .i64 5),(16,.int .i64 5),(6,.int .i64 6),(7,.int .i64 6),(8,.int .i64 7)] 9 (.int .i64 7) (by decide +kernel);have j:(Instr.mapUpdate 193 (.map (some w.heap.size)) (.int .u8 10) (.int .i64 7)).run Tryz.prog (w.alloc (.map (iC [(19,.int .i64 1),(20,.int .i64 1),(18,.int .i64 2),(17,.int .i64 3),(5,.int .i64 4),(11,.int .i64 5),(12,.int .i64 5),(13,.int .i64 5),(14,.int .i64 5),(15,.int .i64 5),(16,.int .i64 5),(6,.int .i64 6),(7,.int .i64 6),(8,.int .i64 7),(9,.int .i64 7)] 0).toArray 15))=.ok () (w.alloc (.map (iC [(19,.int .i64 1),(20,.int .i64 1),(18,.int .i64 2),(17,.int .i64 3),(5,.int .i64 4),(11,.int .i64 5),(12,.int .i64 5),(13,.int .i64 5),(14,.int .i64 5),(15,.int .i64 5),(16,.int .i64 5),(6,.int .i64 6),(7,.int .i64 6),(8,.int .i64 7),(9,.int .i64 7),(10,.int .i64 7)] 0).toArray 16)):=iO 193 3 Tryz.underlying193 w [(19,.int .i64 1),(20,.int .i64 1),(18,.int .i64 2),(17,.int .i64 3),(5,.int .i64 4),(11,.int .i64 5),(12,.int .i64 5),(13,.int .i64 5),(14,.int .i64 5),(15,.int .i64 5),(16,.int .i64 5),(6,.int .i64 6),(7,.int .i64 6),(8,.int .i64 7),(9,.int .i64 7)] 10 (.int .i64 7) (by decide +kernel);have k:(Instr.mapUpdate 193 (.map (some w.heap.size)) (.int .u8 4) (.int .i64 8)).run Tryz.prog (w.alloc (.map (iC [(19,.int .i64 1),(20,.int .i64 1),(18,.int .i64 2),(17,.int .i64 3),(5,.int .i64 4),(11,.int .i64 5),(12,.int .i64 5),(13,.int .i64 5),(14,.int .i64 5),(15,.int .i64 5),(16,.int .i64 5),(6,.int .i64 6),(7,.int .i64 6),(8,.int .i64 7),(9,.int .i64 7),(10,.int .i64 7)] 0).toArray 16))=.ok () (w.alloc (.map (iC [(19,.int .i64 1),(20,.int .i64 1),(18,.int .i64 2),(17,.int .i64 3),(5,.int .i64 4),(11,.int .i64 5),(12,.int .i64 5),(13,.int .i64 5),(14,.int .i64 5),(15,.int .i64 5),(16,.int .i64 5),(6,.int .i64 6),(7,.int .i64 6),(8,.int .i64 7),(9,.int .i64 7),(10,.int .i64 7),(4,.int .i64 8)] 0).toArray 17)):=iO 193 3 Tryz.underlying193 w [(19,.int .i64 1),(20,.int .i64 1),(18,.int .i64 2),(17,.int .i64 3),(5,.int .i64 4),(11,.int .i64 5),(12,.int .i64 5),(13,.int .i64 5),(14,.int .i64 5),(15,.int .i64 5),(16,.int .i64 5),(6,.int .i64 6),(7,.int .i64 6),(8,.int .i64 7),(9,.int .i64 7),(10,.int .i64 7)] 4 (.int .i64 8) (by decide +kernel);go_in
 go_wp2_with fail;go_ret;exact⟨rfl,rfl⟩
theorem DL (k:Nat)(w:World):Calls Tryz.prog 160 #[.int .u8 k] w fun e f=>e=.returned (.bool (qp k))∧f=w:=by
 go_in
 by_cases h1:1≤k
 ·have b:decide ((1:Int)≤(k:Int))=true:=ak' (by omega);by_cases h2:k≤26
  ·have c:decide ((k:Int)≤26)=true:=ak' (by omega);by_cases h3:k=25
   ·have d:((k:Int) != 25)=false:=by rw [h3];rfl
    have a:=O (show qp k=false by subst h3;rfl);clear h3;go_wp2;go_ret;exact⟨(by rw [a.o];rfl),rfl⟩
   ·have d:((k:Int) != 25)=true:=by simp [bne];omega
    have a:=O (show qp k=true by simp [qp];omega);clear h3;go_wp2;go_ret;exact⟨(by rw [a.o];rfl),rfl⟩
  ·have c:decide ((k:Int)≤26)=false:=ala (by omega);have a:=O (show qp k=false by simp [qp];omega);go_wp2;go_ret;exact⟨(by rw [a.o];rfl),rfl⟩
 ·have b:decide ((1:Int)≤(k:Int))=false:=ala (by omega);have a:=O (show qp k=false by simp [qp];omega);go_wp2;go_ret;exact⟨(by rw [a.o];rfl),rfl⟩
theorem VL {k:Nat}(h:qp k=false):qG k=(0,2):=by unfold qG;simp [h]
theorem MV {k:Nat}(h:qp k=true)(h2:tK k ≠ 0):qG k=(tK k,0):=by unfold qG;simp [h,h2]
theorem MU {k:Nat}(h:qp k=true)(h2:tK k=0):qG k=(9,0):=by unfold qG;simp [h,h2]
theorem aaS (k:Nat)(w:World):Calls Tryz.prog 172 #[.int .u8 k] w fun e q=>e=.returned (.tuple #[.int .i64 (qG k).1,.int .i64 (qG k).2])∧Below w.heap.size w q:=by
 have a:tK k≤8:=by
  by_cases h:k≤26
  ·exact (by decide:∀ k≤26,tK k≤8) k h
  ·unfold tK;simp [show k ≠ 19 by omega,show k ≠ 20 by omega,show k ≠ 18 by omega,show k ≠ 17 by omega,show k ≠ 5 by omega,show k ≠ 11 by omega,show k ≠ 12 by omega,show k ≠ 13 by omega,show k ≠ 14 by omega,show k ≠ 15 by omega,show k ≠ 16 by omega,show k ≠ 6 by omega,show k ≠ 7 by omega,show k ≠ 8 by omega,show k ≠ 9 by omega,show k ≠ 10 by omega,show k ≠ 4 by omega]
 go_in
 go_wp2_with fail;refine (DL k w).mono ?_;rintro e w1⟨rfl,rfl⟩;rcases c:qp k with _ | _
 ·have d:=O (VL c);clear c;go_wp2;go_ret2
  exact⟨by rw [d.o];rfl,Below.refl _ _⟩
 ·have j:=O (heap_alloc_new w1 (.map (iC Ii 0).toArray 17));have f:=Z_ _ _ _ j.o k;obtain⟨R,b⟩:∃ R,R=tK k:=⟨_,rfl⟩;rw [← b] at f a
  go_wp2_with fail;refine (VN w1).mono ?_;rintro e r⟨rfl,rfl⟩;by_cases h0:R=0
  ·have d:=O (MU c (b.symm.trans h0));clear c b;have m:decide ((0:Int) < (R:Int))=false:=ala (by omega);have n:decide (0 < R)=false:=ala (by omega);clear h0;go_wp2_with fail;go_ret2
   exact⟨by rw [d.o];rfl,(Below.refl _ _).alloc (ak0 _) _⟩
  ·have d:=O (MV c (fun e=>h0 (b.trans e)));have m:decide ((0:Int) < (R:Int))=true:=ak' (by omega);have n:decide (0 < R)=true:=ak' (by omega);have l:=O b;clear h0 c b;go_wp2_with fail;go_ret2
   exact⟨by rw [d.o,← l.o];rfl,(Below.refl _ _).alloc (ak0 _) _⟩
end
set_option linter.all false
section
open Go.RowKit Mist
attribute [local go_sem] ah aM aV au ak
theorem aaR (k:Nat):(qG k).1=pU k:=by
 by_cases h:k < 27
 ·have:∀ j:Fin 27,(qG j.val).1=pU j.val:=by decide
  exact this ⟨k,h⟩
 ·have e:qp k=false:=by unfold qp;simp;omega
  unfold qG pU;rw [e,if_neg (by simp),if_neg (by omega),if_neg (by omega),if_neg (by omega),if_neg (by omega),if_neg (by omega),if_neg (by omega),if_neg (by omega),if_neg (by omega),if_neg (by omega)]
section
variable {S:Sz} {B g:Nat} {w W:World} {iv pv:Value} {ps:List Pz}
theorem aaT {A q:Option Addr}{c n i:Nat}{xs:List NV}{d:List Int}{x:NV}(h:PZ S B g w W (.slice A n c) iv pv ps)(k:rQ W A q xs d)(m:xs.length=n)(a:xs[i]? = some x) :
  Calls Tryz.prog 139 #[.pointer (some ⟨g,0,none⟩),.int .i64 i] W fun e t=>e=.returned (.int .i64 (pU x.1.kind:Nat))∧Below W.heap.size W t:=by
 have hi:i < n:=by rw [← m];exact (akV.1 a).1
 obtain⟨b,o,u,j⟩:=k.nodes (by omega);subst u;have k0:=j.c0 i x a;obtain⟨K,f⟩:∃ K,K=x.1.kind:=⟨_,rfl⟩;rw [← f] at k0 ⊢
 have H:=O h;have v:=h.blk.cell 0;have C:(0:Int)≤(i:Int):=by omega
 have D:(i:Int) < (n:Int):=by omega
 clear h k a j m f;go_in
 go_wp2_with fail;refine (aaS K W).mono ?_;rintro e y⟨rfl,l⟩;rw [aaR];have r:=O l;clear l;go_wp2_with fail;go_ret;exact⟨by first | rfl | simp,r.o⟩
end
end
set_option linter.all false
section
open Go.RowKit Mist
attribute [local go_sem] ah aM aV au ak
def oP (own j r1 r2:Nat):Bool :=
 if own=4∨own=5∨own=22 then decide (r1≤r2)
 else if own=23 then decide (0 < j) || decide (r1≤r2)
 else if 6≤own∧own≤10∨own=17∨own=18 then decide (r1 < r2) || (decide (r2=r1) && decide (j=0))
 else if 11≤own∧own≤16 then decide (r1 < r2)
 else true
section
variable {S:Sz} {B g:Nat} {w W:World} {iv pv:Value} {ps:List Pz}
theorem aeB {A Bi:Option Addr}{c n i j q:Nat}{xs:List NV}{its:List Int}{x y:NV}(h:PZ S B g w W (.slice A n c) iv pv ps)(hT:rQ W A Bi xs its)(hn:xs.length=n)(C:xs[i]? = some x)(hj:x.1.kids[j]? = some (q:Int))(hy:xs[q]? = some y) :
  Calls Tryz.prog 100 #[.pointer (some ⟨g,0,none⟩),.int .i64 i,.int .i64 j] W fun e W'=>e=.returned (.bool (xV x.1.kind j y.1.kind))∧Below W.heap.size W W':=by
 have hi:i < n:=by rw [← hn];exact (akV.1 C).1
 have hjl:j < x.1.kids.length:=(akV.1 hj).1;have HR:=O fun W2 (f:Below W.heap.size W W2)=>aaT (h.below f) (hT.below f) hn C
 have HS:=O fun W2 (f:Below W.heap.size W W2)=>aaT (h.below f) (hT.below f) hn hy
 obtain⟨b,o,hA,G⟩:=hT.nodes (by omega);subst hA;have k0:=G.c0 i x C;have k1:=G.c1 i x C;have k2:=G.c2 i x C;have k3:=G.c3 i x C;have k4:=G.c4 i x C;obtain⟨Ka,kc,V,hkl,R⟩:=G.kid C;obtain⟨kb,E,hKa,u,Q⟩:=R.ex (by omega);have kq:=Q j _ hj;rw [V] at k3
 subst hKa;have Ti:=O kq;obtain⟨K,hK⟩:∃ K,K=x.1.kind:=⟨_,rfl⟩;obtain⟨r1,v⟩:∃ r,r=pU x.1.kind:=⟨_,rfl⟩;obtain⟨r2,J⟩:∃ r,r=pU y.1.kind:=⟨_,rfl⟩;obtain⟨Z,I⟩:∃ m,m=x.1.kids.length:=⟨_,rfl⟩;rw [← v] at HR
 rw [← J] at HS
 rw [← hK] at k0
 rw [← I] at k3 hjl
 obtain⟨⟨kd,tx,nn,ks,at_⟩,xv⟩:=x;simp only at k0 k1 k2 k3 k4 hK v I
 have M:=O v;have N:=O J;clear v J;have HP:=O h;have c0:=h.blk.cell 0;have HQ:=O (show xV kd j y.1.kind=xV kd j y.1.kind from rfl);have y0:(0:Int)≤(i:Int):=by omega
 have y1:(i:Int) < (n:Int):=by omega
 have y2:(0:Int)≤(j:Int):=by omega
 have y3:(j:Int) < (Z:Int):=by omega
 have UJ:=h.blk.lt;clear h hT C hj hy G hn V hkl R Q I;go_in
 go_upto_region 2 with (fail)
 have P:=O (bf.new W 50 #[.int .u8 (kd:Int),.string (aH tx),.int .i64 nn,.slice (some ⟨kb,E,none⟩) Z kc,.int .i64 at_]);have L:=O ((Below.refl W.heap.size W).alloc (ak0 _) (.cells #[.int .u8 (kd:Int),.string (aH tx),.int .i64 nn,.slice (some ⟨kb,E,none⟩) Z kc,.int .i64 at_] 50))
 generalize W.alloc (.cells #[.int .u8 (kd:Int),.string (aH tx),.int .i64 nn,.slice (some ⟨kb,E,none⟩) Z kc,.int .i64 at_] 50)=w1 at P L ⊢
 have Y:=P.o.cell 3;have k:w1.cell? ⟨kb,E+j,none⟩=some (.int .i64 (q:Int)):=(L.o.cell (p:=⟨kb,_,none⟩) u).trans kq;clear k0 k1 k2 k3 k4 kq c0
 go_region_held3 (fun w'=>w'.cell? ⟨W.heap.size,3,none⟩=some (.slice (some ⟨kb,E,none⟩) Z kc)∧w'.cell? ⟨kb,E+j,none⟩=some (.int .i64 (q:Int)))
  (first | go_keep|(go_split_ands;refine⟨?_,?_⟩ <;> assumption))
  ((first
    | (go_at_call_of 139 (Value.int IntKind.i64 (i:Int))
       refine (HR.o _ (by (repeat (first|(with_reducible exact L.o)|(with_reducible refine Below.drew ?_)));done)).mono ?_;rintro e w3⟨rfl,f⟩;have F:=O (show Below w1.heap.size w1 w3 from Below.trans (by (repeat (first|(with_reducible exact Below.refl _ _)|(with_reducible refine Below.drew ?_)));done) f);have X:=O (L.o.trans (F.o.mono L.o.size));have t:=O (P.o.below F.o P.o.lt);clear f Y k;have Y:=t.o.cell 3;have k:w3.cell? ⟨kb,E+j,none⟩=some (.int .i64 (q:Int)):=(X.o.cell (p:=⟨kb,_,none⟩) u).trans Ti.o)
    | (go_at_call_of 139 (Value.int IntKind.i64 (q:Int))
       refine (HS.o _ (by (repeat (first|(with_reducible exact X.o)|(with_reducible refine Below.drew ?_)));done)).mono ?_;rintro e w4⟨rfl,f⟩;have qM:=O (show Below w3.heap.size w3 w4 from Below.trans (by (repeat (first|(with_reducible exact Below.refl _ _)|(with_reducible refine Below.drew ?_)));done) f);have vN:=O (X.o.trans (qM.o.mono X.o.size));have OD:=O (t.o.below qM.o t.o.lt);clear f Y k;have Y:=OD.o.cell 3;have k:w4.cell? ⟨kb,E+j,none⟩=some (.int .i64 (q:Int)):=(vN.o.cell (p:=⟨kb,_,none⟩) u).trans Ti.o)))
 all_goals
  have n0:=OD.o.cell 0;clear Y k;have a:=O (show xV kd j y.1.kind=oP kd j r1 r2 from by rw [M.o,N.o];rfl);have D:=O vN.o;clear HR HS P L F X t qM OD Ti HQ HP M N UJ u y0 y1 y3 vN;have H:(kd=5∨kd=4∨kd=22∨11≤kd∧kd≤16)∨kd=23∨(kd=6∨kd=7∨kd=8∨kd=9∨kd=10∨kd=17∨kd=18)∨(kd ≠ 5∧kd ≠ 4∧kd ≠ 22∧kd ≠ 23∧¬ (6≤kd∧kd≤18)):=by omega
  rcases H with l | l | l | l
  ·have hk2:kd=5∨kd=4∨kd=22∨kd=11∨kd=12∨kd=13∨kd=14∨kd=15∨kd=16:=by omega
   clear l;rcases hk2 with rfl | rfl | rfl | rfl | rfl | rfl | rfl | rfl | rfl
   all_goals
    go_wp2_with fail;go_ret
    refine⟨?_,D.o⟩
    rw [a.o];first | rfl|(simp [oP];done)|(simp [oP];omega)
  ·subst l;rcases Nat.eq_zero_or_pos j with d | d
   ·subst d;go_wp2_with fail;go_ret
    refine⟨?_,D.o⟩
    rw [a.o];first | rfl|(simp [oP];done)|(simp [oP];omega)
   ·have z:(0:Int) < (j:Int):=by omega
    go_wp2_with fail;go_ret
    refine⟨?_,D.o⟩
    rw [a.o];first | rfl|(simp [oP,d];done)|(simp [oP];omega)
  ·have tri:r1 < r2∨r2=r1∨r2 < r1:=by omega
   rcases tri with U | U | U
   ·have z1:(r1:Int) < (r2:Int):=by omega
    rcases l with rfl | rfl | rfl | rfl | rfl | rfl | rfl
    all_goals
     go_wp2_with fail;go_ret
     refine⟨?_,D.o⟩
     rw [a.o];first | rfl|(simp [oP,U];done)|(simp [oP];omega)
   ·subst U;rcases Nat.eq_zero_or_pos j with d | d
    ·subst d;rcases l with rfl | rfl | rfl | rfl | rfl | rfl | rfl
     all_goals
      go_wp2_with fail;go_ret
      refine⟨?_,D.o⟩
      rw [a.o];first | rfl|(simp [oP];done)|(simp [oP];omega)
    ·have z3:((j:Int) == 0)=false:=by simp;omega
     rcases l with rfl | rfl | rfl | rfl | rfl | rfl | rfl
     all_goals
      go_wp2_with fail;go_ret
      refine⟨?_,D.o⟩
      rw [a.o];first | rfl|(simp [oP,d];done)|(simp [oP];omega)
   ·have z1:¬ (r1:Int) < (r2:Int):=by omega
    have z2:¬ (r2:Int)=(r1:Int):=by omega
    have z3:((r2:Int) == (r1:Int))=false:=by simp;omega
    rcases l with rfl | rfl | rfl | rfl | rfl | rfl | rfl
    all_goals
     go_wp2_with fail;go_ret
     refine⟨?_,D.o⟩
     rw [a.o];first | rfl|(simp [oP,U];done)|(simp [oP];omega)
  ·obtain⟨h5,h4,h22,h23,hop⟩:=l;have b5:((kd:Int) == 5)=false:=by simp;omega
   have b4:((kd:Int) == 4)=false:=by simp;omega
   have b22:((kd:Int) == 22)=false:=by simp;omega
   have b23:((kd:Int) == 23)=false:=by simp;omega
   have b6:((kd:Int) == 6)=false:=by simp;omega
   have b7:((kd:Int) == 7)=false:=by simp;omega
   have b8:((kd:Int) == 8)=false:=by simp;omega
   have b9:((kd:Int) == 9)=false:=by simp;omega
   have b10:((kd:Int) == 10)=false:=by simp;omega
   have b17:((kd:Int) == 17)=false:=by simp;omega
   have b18:((kd:Int) == 18)=false:=by simp;omega
   have b11:((kd:Int) == 11)=false:=by simp;omega
   have b12:((kd:Int) == 12)=false:=by simp;omega
   have b13:((kd:Int) == 13)=false:=by simp;omega
   have b14:((kd:Int) == 14)=false:=by simp;omega
   have b15:((kd:Int) == 15)=false:=by simp;omega
   have b16:((kd:Int) == 16)=false:=by simp;omega
   have ahg:=O (show oP kd j r1 r2=true from by unfold oP;rw [if_neg (by omega),if_neg h23,if_neg (by omega),if_neg (by omega)]);clear h5 h4 h22 h23 hop;go_wp2_with fail;go_ret
   refine⟨?_,D.o⟩
   rw [a.o,ahg.o];rfl
end
end
end Go.Proofs.YtflnfhhgamldhaaGreatDoor
namespace Mist
section
variable {T:Tr} {B:Nat→List Pz} {i:Nat}
theorem yM (h:(nd T i).kind=1):cZ T B i=nL (nd T i).n (i:Int):=by
 unfold cZ;simp only;(repeat rw [if_neg (by omega)]);rw [if_pos (by omega)]
theorem Jz (h:(nd T i).kind=2):cZ T B i=[tz (if (nd T i).n=1 then [116,114,117,101] else [102,97,108,115,101]) (i:Int)]:=by
 unfold cZ;simp only;(repeat rw [if_neg (by omega)]);rw [if_pos (by omega)]
theorem JC (h:(nd T i).kind=3):cZ T B i=[tz (nd T i).text (i:Int)]:=by
 unfold cZ;simp only;(repeat rw [if_neg (by omega)]);rw [if_pos (by omega)]
theorem Ew (h:(nd T i).kind=32):cZ T B i=[tz (nd T i).text (i:Int)]:=by
 unfold cZ;simp only;(repeat rw [if_neg (by omega)]);rw [if_pos (by omega)]
theorem JD (h:(nd T i).kind=4):cZ T B i=tz [45] (i:Int) :: dI (decide (((eO T B i 0).headD default).text=[45])) (eO T B i 0):=by
 unfold cZ;simp only;(repeat rw [if_neg (by omega)]);rw [if_pos (by omega)]
theorem JE (h:(nd T i).kind=5):cZ T B i=tz [110,111,116] (i:Int) :: dI true (eO T B i 0):=by
 unfold cZ;simp only;(repeat rw [if_neg (by omega)]);rw [if_pos (by omega)]
theorem Ej (h:(nd T i).kind=19):cZ T B i=tz [105,102] (i:Int) :: (dI true (eO T B i 0) ++ lz [116,104,101,110] (-1) :: (dI true (eO T B i 1) ++ lz [101,108,115,101] (-1) :: dI true (eO T B i 2))):=by
 unfold cZ;simp only;(repeat rw [if_neg (by omega)]);rw [if_pos (by omega)]
theorem Em (h:(nd T i).kind=20):cZ T B i=tz [108,101,116] (i:Int) :: lz (nd T i).text (-1) :: lz [61] (-1) :: (dI true (eO T B i 0) ++ lz [105,110] (-1) :: dI true (eO T B i 1)):=by
 unfold cZ;simp only;(repeat rw [if_neg (by omega)]);rw [if_pos (by omega)]
theorem En (h:(nd T i).kind=21):cZ T B i=tz (nd T i).text (i:Int) :: tz [40] (-1) :: (dI false (ig T B i (nd T i).kids.length) ++ [tz [41] (-1)]):=by
 unfold cZ;simp only;(repeat rw [if_neg (by omega)]);rw [if_pos (by omega)]
theorem Eo (h:(nd T i).kind=22):cZ T B i=eO T B i 0 ++ [tz [46] (i:Int),tz (nd T i).text (-1)]:=by
 unfold cZ;simp only;(repeat rw [if_neg (by omega)]);rw [if_pos (by omega)]
theorem Ep (h:(nd T i).kind=23):cZ T B i=eO T B i 0 ++ tz [91] (i:Int) :: (dI false (eO T B i 1) ++ [tz [93] (-1)]):=by
 unfold cZ;simp only;(repeat rw [if_neg (by omega)]);rw [if_pos (by omega)]
theorem Er (h:(nd T i).kind=24):cZ T B i=tz (nd T i).text (i:Int) :: tz [123] (-1) :: (dI false (ig T B i (nd T i).kids.length) ++ [tz [125] (-1)]):=by
 unfold cZ;simp only;(repeat rw [if_neg (by omega)]);rw [if_pos (by omega)]
theorem Es (h:(nd T i).kind=25):cZ T B i=tz (nd T i).text (i:Int) :: tz [58] (-1) :: dI true (eO T B i 0):=by
 unfold cZ;simp only;(repeat rw [if_neg (by omega)]);rw [if_pos (by omega)]
theorem Ez (h:(nd T i).kind=34):cZ T B i=tz (nd T i).text (i:Int) :: tz [58] (-1) :: dI true (eO T B i 0):=by
 unfold cZ;simp only;(repeat rw [if_neg (by omega)]);rw [if_pos (by omega)]
theorem Et (h:(nd T i).kind=26):cZ T B i=tz [91] (i:Int) :: (dI false (ig T B i (nd T i).kids.length) ++ [tz [93] (-1)]):=by
 unfold cZ;simp only;(repeat rw [if_neg (by omega)]);rw [if_pos (by omega)]
theorem Eu (h:(nd T i).kind=30):cZ T B i=[tz [105,110,116] (i:Int)]:=by
 unfold cZ;simp only;(repeat rw [if_neg (by omega)]);rw [if_pos (by omega)]
theorem Ev (h:(nd T i).kind=31):cZ T B i=[tz [98,111,111,108] (i:Int)]:=by
 unfold cZ;simp only;(repeat rw [if_neg (by omega)]);rw [if_pos (by omega)]
theorem Ey (h:(nd T i).kind=33):cZ T B i=tz [91] (i:Int) :: (dI false (eO T B i 0) ++ tz [59] (-1) :: lz (Go.Lib.itoa (nd T i).n) (-1) :: [tz [93] (-1)]):=by
 unfold cZ;simp only;(repeat rw [if_neg (by omega)]);rw [if_pos (by omega)]
theorem EA (h:(nd T i).kind=40):cZ T B i=tz [99,104,111,111,115,101] (i:Int) :: lz (nd T i).text (-1) :: tz [58] (-1) :: (dI true (eO T B i 0) ++ tz [46,46] (-1) :: (dI false (eO T B i 1) ++ [tz [59] (-1)])):=by
 unfold cZ;simp only;(repeat rw [if_neg (by omega)]);rw [if_pos (by omega)]
theorem ED (h:(nd T i).kind=41):cZ T B i=tz [116,121,112,101] (i:Int) :: lz (nd T i).text (-1) :: lz [61] (-1) :: lz [123] (-1) :: (dI false (ig T B i (nd T i).kids.length) ++ [tz [125] (-1),tz [59] (-1)]):=by
 unfold cZ;simp only;(repeat rw [if_neg (by omega)]);rw [if_pos (by omega)]
theorem EF (h:(nd T i).kind=42):cZ T B i=tz [102,117,110] (i:Int) :: lz (nd T i).text (-1) :: tz [40] (-1) :: (dI false (ig T B i ((nd T i).kids.length - 2)) ++ tz [41] (-1) :: tz [58] (-1) :: (dI true (eO T B i ((nd T i).kids.length - 2)) ++ ((if 0 < (nd T i).n then [lz [117,112,116,111] (-1),lz (Go.Lib.itoa (nd T i).n) (-1)] else []) ++ lz [61] (-1) :: (dI true (eO T B i ((nd T i).kids.length - 1)) ++ [tz [59] (-1)])))):=by
 unfold cZ;simp only;(repeat rw [if_neg (by omega)]);rw [if_pos (by omega)]
theorem EG (h:(nd T i).kind=43):cZ T B i=tz [108,101,116] (i:Int) :: lz (nd T i).text (-1) :: lz [61] (-1) :: (dI true (eO T B i 0) ++ [tz [59] (-1)]):=by
 unfold cZ;simp only;(repeat rw [if_neg (by omega)]);rw [if_pos (by omega)]
theorem EH (h:(nd T i).kind=44):cZ T B i=tz [111,98,115,101,114,118,101] (i:Int) :: lz (nd T i).text (-1) :: tz [58] (-1) :: (dI true (eO T B i 0) ++ [tz [59] (-1)]):=by
 unfold cZ;simp only;(repeat rw [if_neg (by omega)]);rw [if_pos (by omega)]
theorem EJ (h:(nd T i).kind=45):cZ T B i=[tz [114,101,116,114,97,99,116] (i:Int),lz (nd T i).text (-1),tz [59] (-1)]:=by
 unfold cZ;simp only;(repeat rw [if_neg (by omega)]);rw [if_pos (by omega)]
theorem EK (h:(nd T i).kind=46):cZ T B i=tz [97,115,107] (i:Int) :: lz (mM.getD (nd T i).n.toNat []) (-1) :: (dI true (ig T B i (nd T i).kids.length) ++ [tz [59] (-1)]):=by
 unfold cZ;simp only;(repeat rw [if_neg (by omega)]);rw [if_pos (by omega)]
theorem EL (h:(nd T i).kind=0∨6≤(nd T i).kind∧(nd T i).kind≤18∨27≤(nd T i).kind∧(nd T i).kind≤29∨35≤(nd T i).kind∧(nd T i).kind≤39∨47≤(nd T i).kind):cZ T B i=eO T B i 0 ++ lz (Fv (nd T i).kind) (i:Int) :: dI true (eO T B i 1):=by
 unfold cZ;simp only;(repeat rw [if_neg (by omega)])
theorem aae (T:Tr)(B:Nat→List Pz)(i:Nat):cZ T B i ≠ []:=by
 have a:(nd T i).kind=1∨(nd T i).kind=2∨(nd T i).kind=3∨(nd T i).kind=32∨(nd T i).kind=4∨(nd T i).kind=5∨(nd T i).kind=19∨(nd T i).kind=20∨(nd T i).kind=21∨(nd T i).kind=22∨(nd T i).kind=23∨(nd T i).kind=24∨(nd T i).kind=25∨(nd T i).kind=34∨(nd T i).kind=26∨(nd T i).kind=30∨(nd T i).kind=31∨(nd T i).kind=33∨(nd T i).kind=40∨(nd T i).kind=41∨(nd T i).kind=42∨(nd T i).kind=43∨(nd T i).kind=44∨(nd T i).kind=45∨(nd T i).kind=46∨((nd T i).kind=0∨6≤(nd T i).kind∧(nd T i).kind≤18∨27≤(nd T i).kind∧(nd T i).kind≤29∨35≤(nd T i).kind∧(nd T i).kind≤39∨47≤(nd T i).kind):=by omega
 rcases a with h | h | h | h | h | h | h | h | h | h | h | h | h | h | h | h | h | h | h | h | h | h | h | h | h | h
 ·rw [yM h];unfold nL;split <;> simp
 ·rw [Jz h];simp
 ·rw [JC h];simp
 ·rw [Ew h];simp
 ·rw [JD h];simp
 ·rw [JE h];simp
 ·rw [Ej h];simp
 ·rw [Em h];simp
 ·rw [En h];simp
 ·rw [Eo h];simp
 ·rw [Ep h];simp
 ·rw [Er h];simp
 ·rw [Es h];simp
 ·rw [Ez h];simp
 ·rw [Et h];simp
 ·rw [Eu h];simp
 ·rw [Ev h];simp
 ·rw [Ey h];simp
 ·rw [EA h];simp
 ·rw [ED h];simp
 ·rw [EF h];simp
 ·rw [EG h];simp
 ·rw [EH h];simp
 ·rw [EJ h];simp
 ·rw [EK h];simp
 ·rw [EL h];simp
theorem KZ (T:Tr){f i:Nat}(h:i < f):aQ T f i ≠ []:=by
 cases f with
 | zero=>omega
 | succ f=>exact aae T _ i
end
end Mist
namespace Mist
def pO (B:Nat→List Pz)(ks:List Int):Nat:=(ks.map fun c=>(B c.toNat).length+3).sum
theorem FE (B:Nat→List Pz)(a b:List Int):pO B (a ++ b)=pO B a+pO B b:=by simp [pO]
theorem AV (B:Nat→List Pz)(c:Int)(b:List Int):pO B (c :: b)=(B c.toNat).length+3+pO B b:=by simp [pO]
theorem su (T:Tr)(B:Nat→List Pz)(i j:Nat):(eO T B i j).length≤(B ((nd T i).kids.getD j 0).toNat).length+2:=by
 unfold eO;simp only
 split
 ·omega
 ·simp [aj]
theorem Hf (T:Tr)(B:Nat→List Pz)(i:Nat):∀ m,m≤(nd T i).kids.length→(gP (eO T B i) m).length≤pO B ((nd T i).kids.take m):=by
 intro m
 induction m with
 | zero=>intro _;simp [gP,pO]
 | succ m b =>
  intro h;have c:=su T B i m
  have e:(nd T i).kids.take (m+1)=(nd T i).kids.take m ++ [(nd T i).kids.getD m 0]:=by
   rw [List.take_succ_eq_append_getElem (by omega),akY,akU (by omega)];rfl
  rw [e,FE,AV]
  have:=b (by omega)
  rw [gP];split
  ·rename_i a;subst a;omega
  ·rw [ak5,List.length_cons,aj];omega
theorem agL {l:List Int}(h:l.length=1):l=[l.getD 0 0]:=by
 match l,h with
 | [a],_=>rfl
theorem adO {l:List Int}(h:l.length=2):l=[l.getD 0 0,l.getD 1 0]:=by
 match l,h with
 | [a,b],_=>rfl
theorem agM {l:List Int}(h:l.length=3):l=[l.getD 0 0,l.getD 1 0,l.getD 2 0]:=by
 match l,h with
 | [a,b,c],_=>rfl
theorem ZK {l:List Int}(h:2≤l.length):l=l.take (l.length - 2) ++ [l.getD (l.length - 2) 0,l.getD (l.length - 1) 0]:=by
 have e:=List.take_append_drop (l.length - 2) l;have h2:(l.drop (l.length - 2)).length=2:=by rw [List.length_drop];omega
 have h3:=adO h2
 conv=>lhs;rw [← e]
 rw [h3]
 congr 1
 simp only [akY,List.getElem?_drop];rw [show l.length - 2+1=l.length - 1 by omega];rfl
theorem ai7 {B:Nat→List Pz}{l:List Int}(h:l.length=1):pO B l=(B (l.getD 0 0).toNat).length+3:=by
 rw [agL h];simp [pO]
theorem ai8 {B:Nat→List Pz}{l:List Int}(h:l.length=2):pO B l=(B (l.getD 0 0).toNat).length+3+((B (l.getD 1 0).toNat).length+3):=by
 rw [adO h];simp [pO]
theorem ai9 {B:Nat→List Pz}{l:List Int}(h:l.length=3):pO B l=(B (l.getD 0 0).toNat).length+3+((B (l.getD 1 0).toNat).length+3+((B (l.getD 2 0).toNat).length+3)):=by
 rw [agM h];simp [pO]
theorem ac4 {B:Nat→List Pz}{l:List Int}(h:2≤l.length):pO B l=pO B (l.take (l.length - 2))+((B (l.getD (l.length - 2) 0).toNat).length+3+((B (l.getD (l.length - 1) 0).toNat).length+3)):=by
 have e:=congrArg (pO B) (ZK h);rw [FE] at e
 rw [e];simp [pO]
structure RtZ (T:Tr) (i:Nat):Prop where
 kind:(ji (nd T i).kind || (nd T i).kind == 25 || jf (nd T i).kind || (nd T i).kind == 34 || fM (nd T i).kind)=true
 many:jv (nd T i)=true
 num:gU (nd T i)=true
 named:jB (nd T i).kind=isName (nd T i).text
 txt:jB (nd T i).kind=false→(nd T i).text=[]
 kid:∀ j,j < (nd T i).kids.length→jY (nd T i) j (nd T ((nd T i).kids.getD j 0).toNat).kind=true
 neg:∀ j,j < (nd T i).kids.length→(nd T ((nd T i).kids.getD j 0).toNat).kind=1→(nd T ((nd T i).kids.getD j 0).toNat).n < 0→(nd T i).kind=40
theorem rtZ {T:Tr}{i:Nat}(h:qH T i=true):RtZ T i:=by
 unfold qH at h
 simp only [ak9] at h
 obtain⟨⟨⟨⟨⟨⟨h1,h2⟩,h3⟩,h4⟩,h5⟩,h6⟩,h7⟩:=h
 refine⟨h1,h4,h5,by simpa using h2,fun e=>by rw [e] at h3;simpa using h3,fun j a=>?_,fun j a b c=>?_⟩
 ·have:=ak8.1 h7 j (List.mem_range.2 a)
  simp only [ak9] at this
  exact this.1
 ·have:=ak8.1 h7 j (List.mem_range.2 a)
  simp only [ak9] at this
  have h8:=this.2;rw [b,ak' c] at h8
  simpa using h8
theorem U5 {T:Tr}{i:Nat}(h:RtZ T i)(B:Nat→List Pz):(cZ T B i).length≤9+pO B (nd T i).kids:=by
 have c:=h.many;have b:=h.kind;have k0:=su T B i 0;have f:=su T B i 1;have j:=su T B i 2;have d:=Hf T B i (nd T i).kids.length (ak0 _);have k:=Hf T B i ((nd T i).kids.length - 2) (by omega);have l:=su T B i ((nd T i).kids.length - 2);have o:=su T B i ((nd T i).kids.length - 1);rw [List.take_length] at d
 have q:=@ai7 B (nd T i).kids;have r:=@ai8 B (nd T i).kids;have t:=@ai9 B (nd T i).kids;have u:=@ac4 B (nd T i).kids;unfold jv at c
 unfold cZ ig nL;simp only [aj,ak5,List.length_cons,List.length_nil,apply_ite List.length]
 generalize (eO T B i 0).length=y at *
 generalize (eO T B i 1).length=A at *
 generalize (eO T B i 2).length=C at *
 generalize (eO T B i ((nd T i).kids.length - 2)).length=F at *
 generalize (eO T B i ((nd T i).kids.length - 1)).length=G at *
 generalize (gP (eO T B i) (nd T i).kids.length).length=D at *
 generalize (gP (eO T B i) ((nd T i).kids.length - 2)).length=E at *
 generalize pO B (nd T i).kids=v at *
 generalize pO B ((nd T i).kids.take ((nd T i).kids.length - 2))=x at *
 generalize (nd T i).kids.length=m at *
 generalize (nd T i).kind=K at *
 generalize (nd T i).n=N at *
 simp [ji,jf,fM] at b
 have e:K < 47:=by omega
 clear h b;have a:K=0∨K=1∨K=2∨K=3∨K=4∨K=5∨K=6∨K=7∨K=8∨K=9∨K=10∨K=11∨K=12∨K=13∨K=14∨K=15∨K=16∨K=17∨K=18∨K=19∨K=20∨K=21∨K=22∨K=23∨K=24∨K=25∨K=26∨K=27∨K=28∨K=29∨K=30∨K=31∨K=32∨K=33∨K=34∨K=35∨K=36∨K=37∨K=38∨K=39∨K=40∨K=41∨K=42∨K=43∨K=44∨K=45∨K=46:=by omega
 (repeat' (rcases a with rfl | a)) <;> (try subst a) <;> simp at c ⊢ <;> (repeat' split) <;> omega
theorem TQ {T:Tr}(l:∀ i,i < T.nodes.length→qH T i=true){a b:Nat}{c:List Int}(h:Fo T.nodes a b c):∀ f,b≤f→pO (aQ T f) c≤12 * (b - a):=by
 induction h with
 | nil=>intro f _;simp [pO]
 | @snoc a m b c n h k e ih jh =>
  intro f r;obtain⟨f,rfl⟩:∃ d,f=d+1:=⟨f - 1,by omega⟩;have j:b < T.nodes.length:=(akV.1 e).1;have h1:=ih (f+1) (by have:=k.le;omega);have h2:=jh f (by omega);have h3:=U5 (rtZ (l b j)) (aQ T f);rw [mE e] at h3
  have:=h.le
  have:=k.le
  rw [FE,AV];simp only [ak7];have o:(aQ T (f+1) b).length=(cZ T (aQ T f) b).length:=rfl;have q:pO (aQ T (f+1)) []=0:=rfl;omega
theorem GD {T:Tr}(b:∀ i,i < T.nodes.length→qH T i=true)(hF:Fo T.nodes 0 T.nodes.length T.items){i f:Nat}(hi:i < T.nodes.length)(c:i < f):(aQ T f i).length≤12 * (i+1):=by
 obtain⟨n,m,e,d,a⟩:=hF.each i (ak2 _) hi
 have:=TQ b (Fo.snoc (Fo.nil m) a e) f (by omega)
 rw [List.nil_append,AV] at this
 simp only [ak7] at this
 omega
end Mist
namespace Go.Proofs.YtflnfhhgamldhaaGreatDoor
section
open Go.RowKit
def Pow (w : World) : Prop := Lib.TabBelow Tryz.prog w.heap.size w "internal/strconv.uint64pow10" .u64 Lib.pow10Tab
end
