/-
  A part of the proof.
-/
import Derived.Test.YtajfdjikimiapaaGreatDoorS12
set_option linter.all false
set_option maxRecDepth 100000
set_option maxHeartbeats 4000000
namespace Go.Proofs.YtajfdjikimiapaaGreatDoor
section
open Go.RowKit Mist
structure IntsIn (w:World) (A:Option Addr) (ks:List Int):Prop where
 ex:0 < ks.length→∃ b o,A=some ⟨b,o,none⟩∧b < w.heap.size∧∀ (j:Nat) k,ks[j]? = some k→w.cell? ⟨b,o+j,none⟩=some (.int .i64 k)
theorem IntsIn.below {w d:World}{A:Option Addr}{ks:List Int}(h:IntsIn w A ks)(a:Below w.heap.size w d):IntsIn d A ks :=
 ⟨fun h0=>by
  obtain⟨b,o,e,c,f⟩:=h.ex h0;exact⟨b,o,e,aiI c a.size,fun j k l=>(a.cell (by exact c)).trans (f j k l)⟩⟩
structure qG (w:World) (b o:Nat) (xs:List NV):Prop where
 kids:yY w b o xs
 c0:∀ (i:Nat) x,xs[i]? = some x→w.cell? ⟨b,o+i * 5,none⟩=some (.int .u8 x.1.kind)
 c1:∀ (i:Nat) x,xs[i]? = some x→w.cell? ⟨b,o+i * 5+1,none⟩=some (.string (aU x.1.text))
 c2:∀ (i:Nat) x,xs[i]? = some x→w.cell? ⟨b,o+i * 5+2,none⟩=some (.int .i64 x.1.n)
 c4:∀ (i:Nat) x,xs[i]? = some x→w.cell? ⟨b,o+i * 5+4,none⟩=some (.int .i64 x.1.at_)
theorem qG.lt {w:World}{b o:Nat}{xs:List NV}(h:qG w b o xs):b < w.heap.size:=h.kids.lt
theorem qG.c3 {w:World}{b o:Nat}{xs:List NV}(h:qG w b o xs)(i:Nat)(x:NV)(a:xs[i]? = some x):w.cell? ⟨b,o+i * 5+3,none⟩=some x.2:=h.kids.kv i x a
theorem qG.below {w d:World}{b o:Nat}{xs:List NV}(h:qG w b o xs)(c:Below w.heap.size w d):qG d b o xs :=
 ⟨h.kids.below c,fun i x a=>(c.cell (by exact h.lt)).trans (h.c0 i x a),fun i x a=>(c.cell (by exact h.lt)).trans (h.c1 i x a),fun i x a=>(c.cell (by exact h.lt)).trans (h.c2 i x a),fun i x a=>(c.cell (by exact h.lt)).trans (h.c4 i x a)⟩
theorem qG.kid {w:World}{b o:Nat}{xs:List NV}(h:qG w b o xs){i:Nat}{x:NV}(a:xs[i]? = some x):∃ A c,x.2=.slice A x.1.kids.length c∧x.1.kids.length≤1000000∧IntsIn w A x.1.kids:=by
 obtain⟨A,c,h1,h2,h3⟩:=h.kids.kids x (aiy a);exact⟨A,c,h1,h2,⟨h3⟩⟩
structure lJ (w:World) (A B:Option Addr) (xs:List NV) (its:List Int):Prop where
 nodes:0 < xs.length→∃ b o,A=some ⟨b,o,none⟩∧qG w b o xs
 items:IntsIn w B its
theorem lJ.below {w d:World}{A B:Option Addr}{xs:List NV}{a:List Int}(h:lJ w A B xs a)(c:Below w.heap.size w d):lJ d A B xs a :=
 ⟨fun h0=>by obtain⟨b,o,e,f⟩:=h.nodes h0;exact⟨b,o,e,f.below c⟩,h.items.below c⟩
structure NdR (n:Nd):Prop where
 kind:n.kind < 256
 text:n.text.length≤100000000
 num:j6≤n.n∧n.n≤gL
 place:j6≤n.at_∧n.at_≤gL
 kids:∀ c ∈ n.kids,j6≤c∧c≤gL
def ED (ns:List Nd):Prop:=∀ n ∈ ns,NdR n
theorem jd {xs:List NV}{i:Nat}{x:NV}(h:xs[i]? = some x):(aj xs)[i]? = some x.1:=by unfold aj;rw [List.getElem?_map,h];rfl
theorem aY {xs:List NV}{i:Nat}{x:NV}(a:List Int)(h:xs[i]? = some x):nd ⟨aj xs,a⟩ i=x.1:=jX (t:=⟨aj xs,a⟩) (jd h)
theorem iG {xs:List NV}{i:Nat}(h:i < xs.length):∃ x,xs[i]? = some x:=⟨_,aip h⟩
theorem FR:∀ (xs:List NV) (i k:Nat) (x:NV),xs[i]? = some x→k < 5→(jH xs)[i * 5+k]? = (gu x)[k]?
 | [],_,_,_,h,_=>by simp at h
 | y :: r,0,k,x,h,hk=>by
  have:y=x:=by simpa using h
  subst this;rw [show jH (y :: r)=gu y ++ jH r from rfl,List.getElem?_append_left (by simp [gu];omega)];simp
 | y :: r,i+1,k,x,h,hk=>by
  rw [show jH (y :: r)=gu y ++ jH r from rfl,List.getElem?_append_right (by simp [gu];omega)];have e:(i+1) * 5+k - (gu y).length=i * 5+k:=by simp [gu];omega
  rw [e];exact FR r i k x (by simpa using h) hk
theorem DU {w:World}{base:Nat}{A:Option Addr}{n c:Nat}{ks:List Int}(h:w.ownsRow base 3 1 (.slice A n c) n (intCells ks))(e:n=ks.length):IntsIn w A ks:=by
 subst e
 refine⟨fun h0=>?_⟩
 obtain⟨g,cap,hv,_,a⟩:=h.form h0;have b:A=some ⟨g,0,none⟩:=by injection hv
 subst b
 refine⟨g,0,rfl,a,fun j k d=>?_⟩
 have:=h.cells (g:=g) rfl j (.int .i64 k) (by simp [intCells,d])
 rw [qH] at this
 exact this
theorem FW {w:World}{base:Nat}{A:Option Addr}{c:Nat}{xs:List NV}(h:w.ownsRow base 39 5 (.slice A xs.length c) xs.length (jH xs))(h0:0 < xs.length)(r:∀ x ∈ xs,∃ l,w.ownsRow l 3 1 x.2 x.1.kids.length (intCells x.1.kids))(e:∀ x ∈ xs,x.1.kids.length≤1000000):∃ g,A=some ⟨g,0,none⟩∧qG w g 0 xs:=by
 obtain⟨g,cap,hv,_,f⟩:=h.form h0;have q:A=some ⟨g,0,none⟩:=by injection hv
 subst q
 have b:∀ (i k:Nat) x u,xs[i]? = some x→k < 5→(gu x)[k]? = some u→w.cell? ⟨g,0+(i * 5+k),none⟩=some u:=by
  intro i k x u a d t
  have:=h.cells (g:=g) rfl (i * 5+k) u (by rw [FR xs i k x a d];exact t)
  rw [qH] at this
  exact this
 refine⟨g,rfl,⟨f,fun i x a=>?_,fun x a=>?_⟩,fun i x a=>?_,fun i x a=>?_,fun i x a=>?_,fun i x a=>?_⟩
 ·exact b i 3 x _ a (by omega) rfl
 ·obtain⟨l,j⟩:=r x a;obtain⟨n,o,m⟩:=dh j;rw [m] at j
  exact⟨n,o,m,e x a,(DU j rfl).ex⟩
 ·exact b i 0 x _ a (by omega) rfl
 ·exact b i 1 x _ a (by omega) rfl
 ·exact b i 2 x _ a (by omega) rfl
 ·exact b i 4 x _ a (by omega) rfl
theorem qA.tAt {g:Nat}{w:World}{v:Value}{xs:List NV}{a:List Int}(h:qA g w v xs a)(b:∀ x ∈ xs,x.1.kids.length≤1000000):∃ A B c d,v=.agg #[.slice A xs.length c,.slice B a.length d]∧lJ w A B xs a:=by
 obtain⟨⟨nv,iv,q,rfl,h1,rfl,h2⟩,j⟩:=h;obtain⟨A,c,rfl⟩:=dh h1;obtain⟨B,d,rfl⟩:=dh h2
 refine⟨A,B,c,d,rfl,fun h0=>?_,DU h2 rfl⟩
 obtain⟨f,e,k⟩:=FW h1 h0 (fun x l=>⟨_,j x l⟩) b;exact⟨f,0,e,k⟩
end
section
open Go.RowKit Mist
def gD:List (Nat × Value)→Nat→List MapEntry
 | [],_=>[]
 | (k,v) :: r,i=>⟨.int .u8 k,v,i⟩ :: gD r (i+1)
def pV (x:Nat):List (Nat × Value)→Option Value
 | []=>none
 | (k,v) :: r=>if x=k then some v else pV x r
theorem zx (x:Nat):∀ (l:List (Nat × Value)) (i j:Nat),∃ n,Instr.findNow (.int .u8) (.int .u8 x) (gD l j) i=some ((pV x l).map fun v=>(n,v))
 | [],i,j=>⟨0,rfl⟩
 | (k,v) :: r,i,j=>by
  simp only [gD,pV,Instr.findNow,Instr.sameNow,if_true];by_cases h:x=k
  ·subst h;exact⟨i,by simp⟩
  ·obtain⟨n,a⟩:=zx x r (i+1) (j+1);have h2:((x:Int) == (k:Int))=false:=by simp;omega
   exact⟨n,by simp only [h2,if_neg h,a]⟩
theorem D_ (b:Bool)(x:Int)(w:World):(Instr.checkKey b 10000 5 (.int .u8 x)).run Tryz.prog w=.ok () w :=
 MapKept.run_checkKey Tryz.underlying5 (by trivial) b 9999
theorem DC (T E:TypeId)(z:Value)(a:Tryz.prog.underlying T=some (.map 5 E))(w:World)(h:(zeroValue E).run Tryz.prog w=.ok z w)(l:List (Nat × Value))(m c:Nat)(e:w.heap[m]? = some (.map (gD l 0).toArray c))(x:Nat) :
  (Instr.lookup T (.map (some m)) (.int .u8 x) false).run Tryz.prog w=.ok ((pV x l).getD z) w:=by
 have d:(getObj m).run Tryz.prog w=.ok (.map (gD l 0).toArray c) w:=MapKept.run_getObj_map e;obtain⟨n,f⟩:=zx x l 0 0
 have b:(Instr.findKey 5 (.int .u8 x) (gD l 0)).run Tryz.prog w=.ok ((pV x l).map fun v=>(n,v)) w:=by
  simp only [Instr.findKey,Sem.run_bind,run_underlying Tryz.underlying5,Result.andThen_ok,f];rfl
 unfold Instr.lookup;simp only [Sem.run_bind,run_underlying a,Result.andThen_ok,d,D_,b,Sem.run_pure]
 cases pV x l with
 | none =>
  simp only [Option.map_none,Sem.run_bind,h,Result.andThen_ok,Sem.run_pure];rfl
 | some v =>
  simp only [Option.map_some,Sem.run_pure,Result.andThen_ok];rfl
theorem Jr:∀ (l:List (Nat × Value)) (k:Nat) (v:Value) (i:Nat),gD (l ++ [(k,v)]) i=gD l i ++ [⟨.int .u8 k,v,i+l.length⟩]
 | [],_,_,_=>rfl
 | (a,b) :: r,k,v,i=>by
  simp only [List.cons_append,gD,Jr r k v (i+1),List.length_cons];rw [show i+1+r.length=i+(r.length+1) by omega]
theorem gT (T E:TypeId)(c:Tryz.prog.underlying T=some (.map 5 E))(w:World)(l:List (Nat × Value))(k:Nat)(v:Value)(h:pV k l=none) :
  (Instr.mapUpdate T (.map (some w.heap.size)) (.int .u8 k) v).run Tryz.prog (w.alloc (.map (gD l 0).toArray l.length))=.ok () (w.alloc (.map (gD (l ++ [(k,v)]) 0).toArray (l.length+1))):=by
 have b:(w.alloc (.map (gD l 0).toArray l.length)).heap[w.heap.size]? = some (.map (gD l 0).toArray l.length):=heap_alloc_new w _;have f:(getObj w.heap.size).run Tryz.prog (w.alloc (.map (gD l 0).toArray l.length))=.ok (.map (gD l 0).toArray l.length) (w.alloc (.map (gD l 0).toArray l.length)):=MapKept.run_getObj_map b;obtain⟨n,a⟩:=zx k l 0 0;rw [h] at a
 have d:(Instr.findKey 5 (.int .u8 k) (gD l 0)).run Tryz.prog (w.alloc (.map (gD l 0).toArray l.length))=.ok none (w.alloc (.map (gD l 0).toArray l.length)):=by
  simp only [Instr.findKey,Sem.run_bind,run_underlying Tryz.underlying5,Result.andThen_ok,a];rfl
 have j:∀ o,(setObj w.heap.size o).run Tryz.prog (w.alloc (.map (gD l 0).toArray l.length))=.ok () (w.alloc o):=by
  intro o;rw [MapKept.run_setObj_map o b,heap_put];rfl
 have e:(gD l 0).toArray.push ⟨.int .u8 k,v,l.length⟩=(gD (l ++ [(k,v)]) 0).toArray:=by
  rw [Jr];simp
 unfold Instr.mapUpdate;simp only [Sem.run_bind,run_underlying c,Result.andThen_ok,f,D_,d,j,e]
def F7:List (Nat × Value):=[(19,.int .i64 1),(20,.int .i64 1),(18,.int .i64 2),(17,.int .i64 3),(5,.int .i64 4),(11,.int .i64 5),(12,.int .i64 5),(13,.int .i64 5),(14,.int .i64 5),(15,.int .i64 5),(16,.int .i64 5),(6,.int .i64 6),(7,.int .i64 6),(8,.int .i64 7),(9,.int .i64 7),(10,.int .i64 7),(4,.int .i64 8)]
def qm (k:Nat):Nat:=if k=19 then 1 else if k=20 then 1 else if k=18 then 2 else if k=17 then 3 else if k=5 then 4 else if k=11 then 5 else if k=12 then 5 else if k=13 then 5 else if k=14 then 5 else if k=15 then 5 else if k=16 then 5 else if k=6 then 6 else if k=7 then 6 else if k=8 then 7 else if k=9 then 7 else if k=10 then 7 else if k=4 then 8 else 0
theorem YB (x:Nat):(pV x F7).getD (.int .i64 0)=.int .i64 (qm x:Nat):=by
 by_cases h19:x=19
 ·subst h19;rfl
 by_cases h20:x=20
 ·subst h20;rfl
 by_cases h18:x=18
 ·subst h18;rfl
 by_cases h17:x=17
 ·subst h17;rfl
 by_cases h5:x=5
 ·subst h5;rfl
 by_cases h11:x=11
 ·subst h11;rfl
 by_cases h12:x=12
 ·subst h12;rfl
 by_cases h13:x=13
 ·subst h13;rfl
 by_cases h14:x=14
 ·subst h14;rfl
 by_cases h15:x=15
 ·subst h15;rfl
 by_cases h16:x=16
 ·subst h16;rfl
 by_cases h6:x=6
 ·subst h6;rfl
 by_cases h7:x=7
 ·subst h7;rfl
 by_cases h8:x=8
 ·subst h8;rfl
 by_cases h9:x=9
 ·subst h9;rfl
 by_cases h10:x=10
 ·subst h10;rfl
 by_cases h4:x=4
 ·subst h4;rfl
 simp [F7,pV,qm,h19,h20,h18,h17,h5,h11,h12,h13,h14,h15,h16,h6,h7,h8,h9,h10,h4]
def jF (k:Nat):Bool:=decide (1≤k) && decide (k≤26) && decide (k ≠ 25)
def lH (k:Nat):Nat × Nat:=if jF k then (if qm k=0 then (9,0) else (qm k,0)) else (0,2)
theorem UM (w:World):(zeroValue 3).run Tryz.prog w=.ok (.int .i64 0) w:=by kernel_rfl
theorem XT (w:World)(m c:Nat)(a:w.heap[m]? = some (.map (gD F7 0).toArray c))(x:Nat):(Instr.lookup 149 (.map (some m)) (.int .u8 x) false).run Tryz.prog w=.ok (.int .i64 (qm x:Nat)) w:=by
 have h:=DC 149 3 (.int .i64 0) Tryz.underlying149 w (UM w) F7 m c a x;rw [h,YB]
theorem TQ (w:World):Calls Tryz.prog 121 #[] w fun e l=>e=.returned (.map (some w.heap.size))∧l=w.alloc (.map (gD F7 0).toArray 17):=by
 have a:=@run_makeMap Tryz.prog;have m:(Instr.mapUpdate 149 (.map (some w.heap.size)) (.int .u8 19) (.int .i64 1)).run Tryz.prog (w.alloc (.map #[] 0))=.ok () (w.alloc (.map (gD [(19,.int .i64 1)] 0).toArray 1)):=gT 149 3 Tryz.underlying149 w [] 19 (.int .i64 1) (by decide +kernel);have n:(Instr.mapUpdate 149 (.map (some w.heap.size)) (.int .u8 20) (.int .i64 1)).run Tryz.prog (w.alloc (.map (gD [(19,.int .i64 1)] 0).toArray 1))=.ok () (w.alloc (.map (gD [(19,.int .i64 1),(20,.int .i64 1)] 0).toArray 2)):=gT 149 3 Tryz.underlying149 w [(19,.int .i64 1)] 20 (.int .i64 1) (by decide +kernel);have o:(Instr.mapUpdate 149 (.map (some w.heap.size)) (.int .u8 18) (.int .i64 2)).run Tryz.prog (w.alloc (.map (gD [(19,.int .i64 1),(20,.int .i64 1)] 0).toArray 2))=.ok () (w.alloc (.map (gD [(19,.int .i64 1),(20,.int .i64 1),(18,.int .i64 2)] 0).toArray 3)):=gT 149 3 Tryz.underlying149 w [(19,.int .i64 1),(20,.int .i64 1)] 18 (.int .i64 2) (by decide +kernel);have q:(Instr.mapUpdate 149 (.map (some w.heap.size)) (.int .u8 17) (.int .i64 3)).run Tryz.prog (w.alloc (.map (gD [(19,.int .i64 1),(20,.int .i64 1),(18,.int .i64 2)] 0).toArray 3))=.ok () (w.alloc (.map (gD [(19,.int .i64 1),(20,.int .i64 1),(18,.int .i64 2),(17,.int .i64 3)] 0).toArray 4)):=gT 149 3 Tryz.underlying149 w [(19,.int .i64 1),(20,.int .i64 1),(18,.int .i64 2)] 17 (.int .i64 3) (by decide +kernel);have r:(Instr.mapUpdate 149 (.map (some w.heap.size)) (.int .u8 5) (.int .i64 4)).run Tryz.prog (w.alloc (.map (gD [(19,.int .i64 1),(20,.int .i64 1),(18,.int .i64 2),(17,.int .i64 3)] 0).toArray 4))=.ok () (w.alloc (.map (gD [(19,.int .i64 1),(20,.int .i64 1),(18,.int .i64 2),(17,.int .i64 3),(5,.int .i64 4)] 0).toArray 5)):=gT 149 3 Tryz.underlying149 w [(19,.int .i64 1),(20,.int .i64 1),(18,.int .i64 2),(17,.int .i64 3)] 5 (.int .i64 4) (by decide +kernel);have t:(Instr.mapUpdate 149 (.map (some w.heap.size)) (.int .u8 11) (.int .i64 5)).run Tryz.prog (w.alloc (.map (gD [(19,.int .i64 1),(20,.int .i64 1),(18,.int .i64 2),(17,.int .i64 3),(5,.int .i64 4)] 0).toArray 5))=.ok () (w.alloc (.map (gD [(19,.int .i64 1),(20,.int .i64 1),(18,.int .i64 2),(17,.int .i64 3),(5,.int .i64 4),(11,.int .i64 5)] 0).toArray 6)):=gT 149 3 Tryz.underlying149 w [(19,.int .i64 1),(20,.int .i64 1),(18,.int .i64 2),(17,.int .i64 3),(5,.int .i64 4)] 11 (.int .i64 5) (by decide +kernel);have u:(Instr.mapUpdate 149 (.map (some w.heap.size)) (.int .u8 12) (.int .i64 5)).run Tryz.prog (w.alloc (.map (gD [(19,.int .i64 1),(20,.int .i64 1),(18,.int .i64 2),(17,.int .i64 3),(5,.int .i64 4),(11,.int .i64 5)] 0).toArray 6))=.ok () (w.alloc (.map (gD [(19,.int .i64 1),(20,.int .i64 1),(18,.int .i64 2),(17,.int .i64 3),(5,.int .i64 4),(11,.int .i64 5),(12,.int .i64 5)] 0).toArray 7)):=gT 149 3 Tryz.underlying149 w [(19,.int .i64 1),(20,.int .i64 1),(18,.int .i64 2),(17,.int .i64 3),(5,.int .i64 4),(11,.int .i64 5)] 12 (.int .i64 5) (by decide +kernel);have x:(Instr.mapUpdate 149 (.map (some w.heap.size)) (.int .u8 13) (.int .i64 5)).run Tryz.prog (w.alloc (.map (gD [(19,.int .i64 1),(20,.int .i64 1),(18,.int .i64 2),(17,.int .i64 3),(5,.int .i64 4),(11,.int .i64 5),(12,.int .i64 5)] 0).toArray 7))=.ok () (w.alloc (.map (gD [(19,.int .i64 1),(20,.int .i64 1),(18,.int .i64 2),(17,.int .i64 3),(5,.int .i64 4),(11,.int .i64 5),(12,.int .i64 5),(13,.int .i64 5)] 0).toArray 8)):=gT 149 3 Tryz.underlying149 w [(19,.int .i64 1),(20,.int .i64 1),(18,.int .i64 2),(17,.int .i64 3),(5,.int .i64 4),(11,.int .i64 5),(12,.int .i64 5)] 13 (.int .i64 5) (by decide +kernel);have y:(Instr.mapUpdate 149 (.map (some w.heap.size)) (.int .u8 14) (.int .i64 5)).run Tryz.prog (w.alloc (.map (gD [(19,.int .i64 1),(20,.int .i64 1),(18,.int .i64 2),(17,.int .i64 3),(5,.int .i64 4),(11,.int .i64 5),(12,.int .i64 5),(13,.int .i64 5)] 0).toArray 8))=.ok () (w.alloc (.map (gD [(19,.int .i64 1),(20,.int .i64 1),(18,.int .i64 2),(17,.int .i64 3),(5,.int .i64 4),(11,.int .i64 5),(12,.int .i64 5),(13,.int .i64 5),(14,.int .i64 5)] 0).toArray 9)):=gT 149 3 Tryz.underlying149 w [(19,.int .i64 1),(20,.int .i64 1),(18,.int .i64 2),(17,.int .i64 3),(5,.int .i64 4),(11,.int .i64 5),(12,.int .i64 5),(13,.int .i64 5)] 14 (.int .i64 5) (by decide +kernel);have A:(Instr.mapUpdate 149 (.map (some w.heap.size)) (.int .u8 15) (.int .i64 5)).run Tryz.prog (w.alloc (.map (gD [(19,.int .i64 1),(20,.int .i64 1),(18,.int .i64 2),(17,.int .i64 3),(5,.int .i64 4),(11,.int .i64 5),(12,.int .i64 5),(13,.int .i64 5),(14,.int .i64 5)] 0).toArray 9))=.ok () (w.alloc (.map (gD [(19,.int .i64 1),(20,.int .i64 1),(18,.int .i64 2),(17,.int .i64 3),(5,.int .i64 4),(11,.int .i64 5),(12,.int .i64 5),(13,.int .i64 5),(14,.int .i64 5),(15,.int .i64 5)] 0).toArray 10)):=gT 149 3 Tryz.underlying149 w [(19,.int .i64 1),(20,.int .i64 1),(18,.int .i64 2),(17,.int .i64 3),(5,.int .i64 4),(11,.int .i64 5),(12,.int .i64 5),(13,.int .i64 5),(14,.int .i64 5)] 15 (.int .i64 5) (by decide +kernel);have b:(Instr.mapUpdate 149 (.map (some w.heap.size)) (.int .u8 16) (.int .i64 5)).run Tryz.prog (w.alloc (.map (gD [(19,.int .i64 1),(20,.int .i64 1),(18,.int .i64 2),(17,.int .i64 3),(5,.int .i64 4),(11,.int .i64 5),(12,.int .i64 5),(13,.int .i64 5),(14,.int .i64 5),(15,.int .i64 5)] 0).toArray 10))=.ok () (w.alloc (.map (gD [(19,.int .i64 1),(20,.int .i64 1),(18,.int .i64 2),(17,.int .i64 3),(5,.int .i64 4),(11,.int .i64 5),(12,.int .i64 5),(13,.int .i64 5),(14,.int .i64 5),(15,.int .i64 5),(16,.int .i64 5)] 0).toArray 11)):=gT 149 3 Tryz.underlying149 w [(19,.int .i64 1),(20,.int .i64 1),(18,.int .i64 2),(17,.int .i64 3),(5,.int .i64 4),(11,.int .i64 5),(12,.int .i64 5),(13,.int .i64 5),(14,.int .i64 5),(15,.int .i64 5)] 16 (.int .i64 5) (by decide +kernel);have c:(Instr.mapUpdate 149 (.map (some w.heap.size)) (.int .u8 6) (.int .i64 6)).run Tryz.prog (w.alloc (.map (gD [(19,.int .i64 1),(20,.int .i64 1),(18,.int .i64 2),(17,.int .i64 3),(5,.int .i64 4),(11,.int .i64 5),(12,.int .i64 5),(13,.int .i64 5),(14,.int .i64 5),(15,.int .i64 5),(16,.int .i64 5)] 0).toArray 11))=.ok () (w.alloc (.map (gD [(19,.int .i64 1),(20,.int .i64 1),(18,.int .i64 2),(17,.int .i64 3),(5,.int .i64 4),(11,.int .i64 5),(12,.int .i64 5),(13,.int .i64 5),(14,.int .i64 5),(15,.int .i64 5),(16,.int .i64 5),(6,.int .i64 6)] 0).toArray 12)):=gT 149 3 Tryz.underlying149 w [(19,.int .i64 1),(20,.int .i64 1),(18,.int .i64 2),(17,.int .i64 3),(5,.int .i64 4),(11,.int .i64 5),(12,.int .i64 5),(13,.int .i64 5),(14,.int .i64 5),(15,.int .i64 5),(16,.int .i64 5)] 6 (.int .i64 6) (by decide +kernel);have d:(Instr.mapUpdate 149 (.map (some w.heap.size)) (.int .u8 7) (.int .i64 6)).run Tryz.prog (w.alloc (.map (gD [(19,.int .i64 1),(20,.int .i64 1),(18,.int .i64 2),(17,.int .i64 3),(5,.int .i64 4),(11,.int .i64 5),(12,.int .i64 5),(13,.int .i64 5),(14,.int .i64 5),(15,.int .i64 5),(16,.int .i64 5),(6,.int .i64 6)] 0).toArray 12))=.ok () (w.alloc (.map (gD [(19,.int .i64 1),(20,.int .i64 1),(18,.int .i64 2),(17,.int .i64 3),(5,.int .i64 4),(11,.int .i64 5),(12,.int .i64 5),(13,.int .i64 5),(14,.int .i64 5),(15,.int .i64 5),(16,.int .i64 5),(6,.int .i64 6),(7,.int .i64 6)] 0).toArray 13)):=gT 149 3 Tryz.underlying149 w [(19,.int .i64 1),(20,.int .i64 1),(18,.int .i64 2),(17,.int .i64 3),(5,.int .i64 4),(11,.int .i64 5),(12,.int .i64 5),(13,.int .i64 5),(14,.int .i64 5),(15,.int .i64 5),(16,.int .i64 5),(6,.int .i64 6)] 7 (.int .i64 6) (by decide +kernel);have f:(Instr.mapUpdate 149 (.map (some w.heap.size)) (.int .u8 8) (.int .i64 7)).run Tryz.prog (w.alloc (.map (gD [(19,.int .i64 1),(20,.int .i64 1),(18,.int .i64 2),(17,.int .i64 3),(5,.int .i64 4),(11,.int .i64 5),(12,.int .i64 5),(13,.int .i64 5),(14,.int .i64 5),(15,.int .i64 5),(16,.int .i64 5),(6,.int .i64 6),(7,.int .i64 6)] 0).toArray 13))=.ok () (w.alloc (.map (gD [(19,.int .i64 1),(20,.int .i64 1),(18,.int .i64 2),(17,.int .i64 3),(5,.int .i64 4),(11,.int .i64 5),(12,.int .i64 5),(13,.int .i64 5),(14,.int .i64 5),(15,.int .i64 5),(16,.int .i64 5),(6,.int .i64 6),(7,.int .i64 6),(8,.int .i64 7)] 0).toArray 14)):=gT 149 3 Tryz.underlying149 w [(19,.int .i64 1),(20,.int .i64 1),(18,.int .i64 2),(17,.int .i64 3),(5,.int .i64 4),(11,.int .i64 5),(12,.int .i64 5),(13,.int .i64 5),(14,.int .i64 5),(15,.int .i64 5),(16,.int .i64 5),(6,.int .i64 6),(7,.int .i64 6)] 8 (.int .i64 7) (by decide +kernel);have h:(Instr.mapUpdate 149 (.map (some w.heap.size)) (.int .u8 9) (.int .i64 7)).run Tryz.prog (w.alloc (.map (gD [(19,.int .i64 1),(20,.int .i64 1),(18,.int .i64 2),(17,.int .i64 3),(5,.int .i64 4),(11,.int .i64 5),(12,.int .i64 5),(13,.int .i64 5),(14,.int .i64 5),(15,.int .i64 5),(16,.int .i64 5),(6,.int .i64 6),(7,.int .i64 6),(8,.int .i64 7)] 0).toArray 14))=.ok () (w.alloc (.map (gD [(19,.int .i64 1),(20,.int .i64 1),(18,.int .i64 2),(17,.int .i64 3),(5,.int .i64 4),(11,.int .i64 5),(12,.int .i64 5),(13,.int .i64 5),(14,.int .i64 5),(15,.int .i64 5),(16,.int .i64 5),(6,.int .i64 6),(7,.int .i64 6),(8,.int .i64 7),(9,.int .i64 7)] 0).toArray 15)):=gT 149 3 Tryz.underlying149 w [(19,.int .i64 1),(20,.int .i64 1),(18,.int .i64 2),(17,.int .i64 3),(5,.int .i64 4),(11,.int .i64 5),(12,.int .i64 5),(13,.int .i64 5),(14,.int .i64 5),(15,.int .i64 5),(16,.int .i64 5),(6,.int .i64 6),(7,.int .i64 6),(8,.int .i64 7)] 9 (.int .i64 7) (by decide +kernel);have j:(Instr.mapUpdate 149 (.map (some w.heap.size)) (.int .u8 10) (.int .i64 7)).run Tryz.prog (w.alloc (.map (gD [(19,.int .i64 1),(20,.int .i64 1),(18,.int .i64 2),(17,.int .i64 3),(5,.int .i64 4),(11,.int .i64 5),(12,.int .i64 5),(13,.int .i64 5),(14,.int .i64 5),(15,.int .i64 5),(16,.int .i64 5),(6,.int .i64 6),(7,.int .i64 6),(8,.int .i64 7),(9,.int .i64 7)] 0).toArray 15))=.ok () (w.alloc (.map (gD [(19,.int .i64 1),(20,.int .i64 1),(18,.int .i64 2),(17,.int .i64 3),(5,.int .i64 4),(11,.int .i64 5),(12,.int .i64 5),(13,.int .i64 5),(14,.int .i64 5),(15,.int .i64 5),(16,.int .i64 5),(6,.int .i64 6),(7,.int .i64 6),(8,.int .i64 7),(9,.int .i64 7),(10,.int .i64 7)] 0).toArray 16)):=gT 149 3 Tryz.underlying149 w [(19,.int .i64 1),(20,.int .i64 1),(18,.int .i64 2),(17,.int .i64 3),(5,.int .i64 4),(11,.int .i64 5),(12,.int .i64 5),(13,.int .i64 5),(14,.int .i64 5),(15,.int .i64 5),(16,.int .i64 5),(6,.int .i64 6),(7,.int .i64 6),(8,.int .i64 7),(9,.int .i64 7)] 10 (.int .i64 7) (by decide +kernel);have k:(Instr.mapUpdate 149 (.map (some w.heap.size)) (.int .u8 4) (.int .i64 8)).run Tryz.prog (w.alloc (.map (gD [(19,.int .i64 1),(20,.int .i64 1),(18,.int .i64 2),(17,.int .i64 3),(5,.int .i64 4),(11,.int .i64 5),(12,.int .i64 5),(13,.int .i64 5),(14,.int .i64 5),(15,.int .i64 5),(16,.int .i64 5),(6,.int .i64 6),(7,.int .i64 6),(8,.int .i64 7),(9,.int .i64 7),(10,.int .i64 7)] 0).toArray 16))=.ok () (w.alloc (.map (gD [(19,.int .i64 1),(20,.int .i64 1),(18,.int .i64 2),(17,.int .i64 3),(5,.int .i64 4),(11,.int .i64 5),(12,.int .i64 5),(13,.int .i64 5),(14,.int .i64 5),(15,.int .i64 5),(16,.int .i64 5),(6,.int .i64 6),(7,.int .i64 6),(8,.int .i64 7),(9,.int .i64 7),(10,.int .i64 7),(4,.int .i64 8)] 0).toArray 17)):=gT 149 3 Tryz.underlying149 w [(19,.int .i64 1),(20,.int .i64 1),(18,.int .i64 2),(17,.int .i64 3),(5,.int .i64 4),(11,.int .i64 5),(12,.int .i64 5),(13,.int .i64 5),(14,.int .i64 5),(15,.int .i64 5),(16,.int .i64 5),(6,.int .i64 6),(7,.int .i64 6),(8,.int .i64 7),(9,.int .i64 7),(10,.int .i64 7)] 4 (.int .i64 8) (by decide +kernel);go_in
 go_wp2_with fail;go_ret;exact⟨rfl,rfl⟩
theorem Dg (k:Nat)(w:World):Calls Tryz.prog 120 #[.int .u8 k] w fun e f=>e=.returned (.bool (jF k))∧f=w:=by
 go_in
 by_cases h1:1≤k
 ·have b:decide ((1:Int)≤(k:Int))=true:=aiG (by omega);by_cases h2:k≤26
  ·have c:decide ((k:Int)≤26)=true:=aiG (by omega);by_cases h3:k=25
   ·have d:((k:Int) != 25)=false:=by rw [h3];rfl
    have a:=O (show jF k=false by subst h3;rfl);clear h3;go_wp2;go_ret;exact⟨(by rw [a.o];rfl),rfl⟩
   ·have d:((k:Int) != 25)=true:=by simp [bne];omega
    have a:=O (show jF k=true by simp [jF];omega);clear h3;go_wp2;go_ret;exact⟨(by rw [a.o];rfl),rfl⟩
  ·have c:decide ((k:Int)≤26)=false:=aiH (by omega);have a:=O (show jF k=false by simp [jF];omega);go_wp2;go_ret;exact⟨(by rw [a.o];rfl),rfl⟩
 ·have b:decide ((1:Int)≤(k:Int))=false:=aiH (by omega);have a:=O (show jF k=false by simp [jF];omega);go_wp2;go_ret;exact⟨(by rw [a.o];rfl),rfl⟩
theorem F5 {k:Nat}(h:jF k=false):lH k=(0,2):=by unfold lH;simp [h]
theorem KQ {k:Nat}(h:jF k=true)(h2:qm k ≠ 0):lH k=(qm k,0):=by unfold lH;simp [h,h2]
theorem AQ {k:Nat}(h:jF k=true)(h2:qm k=0):lH k=(9,0):=by unfold lH;simp [h,h2]
theorem Yx (k:Nat)(w:World):Calls Tryz.prog 70 #[.int .u8 k] w fun e q=>e=.returned (.tuple #[.int .i64 (lH k).1,.int .i64 (lH k).2])∧Below w.heap.size w q:=by
 have a:qm k≤8:=by
  by_cases h:k≤26
  ·exact (by decide:∀ k≤26,qm k≤8) k h
  ·unfold qm;simp [show k ≠ 19 by omega,show k ≠ 20 by omega,show k ≠ 18 by omega,show k ≠ 17 by omega,show k ≠ 5 by omega,show k ≠ 11 by omega,show k ≠ 12 by omega,show k ≠ 13 by omega,show k ≠ 14 by omega,show k ≠ 15 by omega,show k ≠ 16 by omega,show k ≠ 6 by omega,show k ≠ 7 by omega,show k ≠ 8 by omega,show k ≠ 9 by omega,show k ≠ 10 by omega,show k ≠ 4 by omega]
 go_in
 go_wp2_with fail;refine (Dg k w).mono ?_;rintro e w1⟨rfl,rfl⟩;rcases c:jF k with _ | _
 ·have d:=O (F5 c);clear c;go_wp2;go_ret2
  exact⟨by rw [d.o];rfl,Below.refl _ _⟩
 ·have j:=O (heap_alloc_new w1 (.map (gD F7 0).toArray 17));have f:=XT _ _ _ j.o k;obtain⟨R,b⟩:∃ R,R=qm k:=⟨_,rfl⟩;rw [← b] at f a
  go_wp2_with fail;refine (TQ w1).mono ?_;rintro e r⟨rfl,rfl⟩;by_cases h0:R=0
  ·have d:=O (AQ c (b.symm.trans h0));clear c b;have m:decide ((0:Int) < (R:Int))=false:=aiH (by omega);have n:decide (0 < R)=false:=aiH (by omega);clear h0;go_wp2_with fail;go_ret2
   exact⟨by rw [d.o];rfl,(Below.refl _ _).alloc (aiv _) _⟩
  ·have d:=O (KQ c (fun e=>h0 (b.trans e)));have m:decide ((0:Int) < (R:Int))=true:=aiG (by omega);have n:decide (0 < R)=true:=aiG (by omega);have l:=O b;clear h0 c b;go_wp2_with fail;go_ret2
   exact⟨by rw [d.o,← l.o];rfl,(Below.refl _ _).alloc (aiv _) _⟩
end
set_option linter.all false
section
open Go.RowKit Mist
attribute [local go_sem] au aN aV aM aG
theorem D8 (k:Nat):(lH k).1=l9 k:=by
 by_cases h:k < 27
 ·have:∀ j:Fin 27,(lH j.val).1=l9 j.val:=by decide
  exact this ⟨k,h⟩
 ·have e:jF k=false:=by unfold jF;simp;omega
  unfold lH l9;rw [e,if_neg (by simp),if_neg (by omega),if_neg (by omega),if_neg (by omega),if_neg (by omega),if_neg (by omega),if_neg (by omega),if_neg (by omega),if_neg (by omega),if_neg (by omega)]
section
variable {S:Sz} {B g:Nat} {w W:World} {iv pv:Value} {ps:List Pz}
theorem Yy {A q:Option Addr}{c n i:Nat}{xs:List NV}{d:List Int}{x:NV}(h:PZ S B g w W (.slice A n c) iv pv ps)(k:lJ W A q xs d)(m:xs.length=n)(a:xs[i]? = some x) :
  Calls Tryz.prog 81 #[.pointer (some ⟨g,0,none⟩),.int .i64 i] W fun e t=>e=.returned (.int .i64 (l9 x.1.kind:Nat))∧Below W.heap.size W t:=by
 have hi:i < n:=by rw [← m];exact (aiq.1 a).1
 obtain⟨b,o,u,j⟩:=k.nodes (by omega);subst u;have k0:=j.c0 i x a;obtain⟨K,f⟩:∃ K,K=x.1.kind:=⟨_,rfl⟩;rw [← f] at k0 ⊢
 have H:=O h;have y:=h.blk.cell 0;have D:(0:Int)≤(i:Int):=by omega
 have E:(i:Int) < (n:Int):=by omega
 clear h k a j m f;go_in
 go_wp2_with fail;refine (Yx K W).mono ?_;rintro e C⟨rfl,l⟩;rw [D8];have r:=O l;clear l;go_wp2_with fail;go_ret;exact⟨by first | rfl | simp,r.o⟩
end
end
set_option linter.all false
section
open Go.RowKit Mist
attribute [local go_sem] au aN aV aM aG
def nH (own j r1 r2:Nat):Bool :=
 if own=4∨own=5∨own=22 then decide (r1≤r2)
 else if own=23 then decide (0 < j) || decide (r1≤r2)
 else if 6≤own∧own≤10∨own=17∨own=18 then decide (r1 < r2) || (decide (r2=r1) && decide (j=0))
 else if 11≤own∧own≤16 then decide (r1 < r2)
 else true
section
variable {S:Sz} {B g:Nat} {w W:World} {iv pv:Value} {ps:List Pz}
theorem acB {A Bi:Option Addr}{c n i j q:Nat}{xs:List NV}{its:List Int}{x y:NV}(h:PZ S B g w W (.slice A n c) iv pv ps)(hT:lJ W A Bi xs its)(hn:xs.length=n)(C:xs[i]? = some x)(hj:x.1.kids[j]? = some (q:Int))(hy:xs[q]? = some y) :
  Calls Tryz.prog 38 #[.pointer (some ⟨g,0,none⟩),.int .i64 i,.int .i64 j] W fun e W'=>e=.returned (.bool (n_ x.1.kind j y.1.kind))∧Below W.heap.size W W':=by
 have hi:i < n:=by rw [← hn];exact (aiq.1 C).1
 have hjl:j < x.1.kids.length:=(aiq.1 hj).1;have HR:=O fun W2 (f:Below W.heap.size W W2)=>Yy (h.below f) (hT.below f) hn C
 have HS:=O fun W2 (f:Below W.heap.size W W2)=>Yy (h.below f) (hT.below f) hn hy
 obtain⟨b,o,hA,G⟩:=hT.nodes (by omega);subst hA;have k0:=G.c0 i x C;have k1:=G.c1 i x C;have k2:=G.c2 i x C;have k3:=G.c3 i x C;have k4:=G.c4 i x C;obtain⟨Ka,kc,V,hkl,R⟩:=G.kid C;obtain⟨kb,E,hKa,t,Q⟩:=R.ex (by omega);have kq:=Q j _ hj;rw [V] at k3
 subst hKa;have Jd:=O kq;obtain⟨K,hK⟩:∃ K,K=x.1.kind:=⟨_,rfl⟩;obtain⟨r1,u⟩:∃ r,r=l9 x.1.kind:=⟨_,rfl⟩;obtain⟨r2,J⟩:∃ r,r=l9 y.1.kind:=⟨_,rfl⟩;obtain⟨Z,I⟩:∃ m,m=x.1.kids.length:=⟨_,rfl⟩;rw [← u] at HR
 rw [← J] at HS
 rw [← hK] at k0
 rw [← I] at k3 hjl
 obtain⟨⟨kd,tx,nn,ks,at_⟩,xv⟩:=x;simp only at k0 k1 k2 k3 k4 hK u I
 have M:=O u;have N:=O J;clear u J;have HP:=O h;have c0:=h.blk.cell 0;have HQ:=O (show n_ kd j y.1.kind=n_ kd j y.1.kind from rfl);have y0:(0:Int)≤(i:Int):=by omega
 have y1:(i:Int) < (n:Int):=by omega
 have y2:(0:Int)≤(j:Int):=by omega
 have y3:(j:Int) < (Z:Int):=by omega
 have U2:=h.blk.lt;clear h hT C hj hy G hn V hkl R Q I;go_in
 go_upto_region 2 with (fail)
 have P:=O (aZ.new W 39 #[.int .u8 (kd:Int),.string (aU tx),.int .i64 nn,.slice (some ⟨kb,E,none⟩) Z kc,.int .i64 at_]);have L:=O ((Below.refl W.heap.size W).alloc (aiv _) (.cells #[.int .u8 (kd:Int),.string (aU tx),.int .i64 nn,.slice (some ⟨kb,E,none⟩) Z kc,.int .i64 at_] 39))
 generalize W.alloc (.cells #[.int .u8 (kd:Int),.string (aU tx),.int .i64 nn,.slice (some ⟨kb,E,none⟩) Z kc,.int .i64 at_] 39)=w1 at P L ⊢
 have Y:=P.o.cell 3;have k:w1.cell? ⟨kb,E+j,none⟩=some (.int .i64 (q:Int)):=(L.o.cell (p:=⟨kb,_,none⟩) t).trans kq;clear k0 k1 k2 k3 k4 kq c0
 go_region_held3 (fun w'=>w'.cell? ⟨W.heap.size,3,none⟩=some (.slice (some ⟨kb,E,none⟩) Z kc)∧w'.cell? ⟨kb,E+j,none⟩=some (.int .i64 (q:Int)))
  (first | go_keep|(go_split_ands;refine⟨?_,?_⟩ <;> assumption))
  ((first
    | (go_at_call_of 81 (Value.int IntKind.i64 (i:Int))
       refine (HR.o _ (by (repeat (first|(with_reducible exact L.o)|(with_reducible refine Below.drew ?_)));done)).mono ?_;rintro e w3⟨rfl,f⟩;have F:=O (show Below w1.heap.size w1 w3 from Below.trans (by (repeat (first|(with_reducible exact Below.refl _ _)|(with_reducible refine Below.drew ?_)));done) f);have X:=O (L.o.trans (F.o.mono L.o.size));have Q0:=O (P.o.below F.o P.o.lt);clear f Y k;have Y:=Q0.o.cell 3;have k:w3.cell? ⟨kb,E+j,none⟩=some (.int .i64 (q:Int)):=(X.o.cell (p:=⟨kb,_,none⟩) t).trans Jd.o)
    | (go_at_call_of 81 (Value.int IntKind.i64 (q:Int))
       refine (HS.o _ (by (repeat (first|(with_reducible exact X.o)|(with_reducible refine Below.drew ?_)));done)).mono ?_;rintro e w4⟨rfl,f⟩;have mh:=O (show Below w3.heap.size w3 w4 from Below.trans (by (repeat (first|(with_reducible exact Below.refl _ _)|(with_reducible refine Below.drew ?_)));done) f);have BF:=O (X.o.trans (mh.o.mono X.o.size));have ME:=O (Q0.o.below mh.o Q0.o.lt);clear f Y k;have Y:=ME.o.cell 3;have k:w4.cell? ⟨kb,E+j,none⟩=some (.int .i64 (q:Int)):=(BF.o.cell (p:=⟨kb,_,none⟩) t).trans Jd.o)))
 all_goals
  have n0:=ME.o.cell 0;clear Y k;have a:=O (show n_ kd j y.1.kind=nH kd j r1 r2 from by rw [M.o,N.o];rfl);have D:=O BF.o;clear HR HS P L F X Q0 mh ME Jd HQ HP M N U2 t y0 y1 y3 BF;have H:(kd=5∨kd=4∨kd=22∨11≤kd∧kd≤16)∨kd=23∨(kd=6∨kd=7∨kd=8∨kd=9∨kd=10∨kd=17∨kd=18)∨(kd ≠ 5∧kd ≠ 4∧kd ≠ 22∧kd ≠ 23∧¬ (6≤kd∧kd≤18)):=by omega
  rcases H with l | l | l | l
  ·have hk2:kd=5∨kd=4∨kd=22∨kd=11∨kd=12∨kd=13∨kd=14∨kd=15∨kd=16:=by omega
   clear l;rcases hk2 with rfl | rfl | rfl | rfl | rfl | rfl | rfl | rfl | rfl
   all_goals
    go_wp2_with fail;go_ret
    refine⟨?_,D.o⟩
    rw [a.o];first | rfl|(simp [nH];done)|(simp [nH];omega)
  ·subst l;rcases Nat.eq_zero_or_pos j with d | d
   ·subst d;go_wp2_with fail;go_ret
    refine⟨?_,D.o⟩
    rw [a.o];first | rfl|(simp [nH];done)|(simp [nH];omega)
   ·have z:(0:Int) < (j:Int):=by omega
    go_wp2_with fail;go_ret
    refine⟨?_,D.o⟩
    rw [a.o];first | rfl|(simp [nH,d];done)|(simp [nH];omega)
  ·have tri:r1 < r2∨r2=r1∨r2 < r1:=by omega
   rcases tri with U | U | U
   ·have z1:(r1:Int) < (r2:Int):=by omega
    rcases l with rfl | rfl | rfl | rfl | rfl | rfl | rfl
    all_goals
     go_wp2_with fail;go_ret
     refine⟨?_,D.o⟩
     rw [a.o];first | rfl|(simp [nH,U];done)|(simp [nH];omega)
   ·subst U;rcases Nat.eq_zero_or_pos j with d | d
    ·subst d;rcases l with rfl | rfl | rfl | rfl | rfl | rfl | rfl
     all_goals
      go_wp2_with fail;go_ret
      refine⟨?_,D.o⟩
      rw [a.o];first | rfl|(simp [nH];done)|(simp [nH];omega)
    ·have z3:((j:Int) == 0)=false:=by simp;omega
     rcases l with rfl | rfl | rfl | rfl | rfl | rfl | rfl
     all_goals
      go_wp2_with fail;go_ret
      refine⟨?_,D.o⟩
      rw [a.o];first | rfl|(simp [nH,d];done)|(simp [nH];omega)
   ·have z1:¬ (r1:Int) < (r2:Int):=by omega
    have z2:¬ (r2:Int)=(r1:Int):=by omega
    have z3:((r2:Int) == (r1:Int))=false:=by simp;omega
    rcases l with rfl | rfl | rfl | rfl | rfl | rfl | rfl
    all_goals
     go_wp2_with fail;go_ret
     refine⟨?_,D.o⟩
     rw [a.o];first | rfl|(simp [nH,U];done)|(simp [nH];omega)
  ·obtain⟨h5,h4,h22,h23,hop⟩:=l;have b5:((kd:Int) == 5)=false:=by simp;omega
   have b4:((kd:Int) == 4)=false:=by simp;omega
   have b22:((kd:Int) == 22)=false:=by simp;omega
   have b23:((kd:Int) == 23)=false:=by simp;omega
   have b6:((kd:Int) == 6)=false:=by simp;omega
   have b7:((kd:Int) == 7)=false:=by simp;omega
   have b8:((kd:Int) == 8)=false:=by simp;omega
   have b9:((kd:Int) == 9)=false:=by simp;omega
   have b10:((kd:Int) == 10)=false:=by simp;omega
   have b17:((kd:Int) == 17)=false:=by simp;omega
   have b18:((kd:Int) == 18)=false:=by simp;omega
   have b11:((kd:Int) == 11)=false:=by simp;omega
   have b12:((kd:Int) == 12)=false:=by simp;omega
   have b13:((kd:Int) == 13)=false:=by simp;omega
   have b14:((kd:Int) == 14)=false:=by simp;omega
   have b15:((kd:Int) == 15)=false:=by simp;omega
   have b16:((kd:Int) == 16)=false:=by simp;omega
   have afk:=O (show nH kd j r1 r2=true from by unfold nH;rw [if_neg (by omega),if_neg h23,if_neg (by omega),if_neg (by omega)]);clear h5 h4 h22 h23 hop;go_wp2_with fail;go_ret
   refine⟨?_,D.o⟩
   rw [a.o,afk.o];rfl
end
end
end Go.Proofs.YtajfdjikimiapaaGreatDoor
namespace Mist
section
variable {T:Tr} {B:Nat→List Pz} {i:Nat}
theorem uq (h:(nd T i).kind=1):aW T B i=gI (nd T i).n (i:Int):=by
 unfold aW;simp only;(repeat rw [if_neg (by omega)]);rw [if_pos (by omega)]
theorem BQ (h:(nd T i).kind=2):aW T B i=[tz (if (nd T i).n=1 then [116,114,117,101] else [102,97,108,115,101]) (i:Int)]:=by
 unfold aW;simp only;(repeat rw [if_neg (by omega)]);rw [if_pos (by omega)]
theorem BS (h:(nd T i).kind=3):aW T B i=[tz (nd T i).text (i:Int)]:=by
 unfold aW;simp only;(repeat rw [if_neg (by omega)]);rw [if_pos (by omega)]
theorem xP (h:(nd T i).kind=32):aW T B i=[tz (nd T i).text (i:Int)]:=by
 unfold aW;simp only;(repeat rw [if_neg (by omega)]);rw [if_pos (by omega)]
theorem BU (h:(nd T i).kind=4):aW T B i=tz [45] (i:Int) :: aH (decide (((bM T B i 0).headD default).text=[45])) (bM T B i 0):=by
 unfold aW;simp only;(repeat rw [if_neg (by omega)]);rw [if_pos (by omega)]
theorem BZ (h:(nd T i).kind=5):aW T B i=tz [110,111,116] (i:Int) :: aH true (bM T B i 0):=by
 unfold aW;simp only;(repeat rw [if_neg (by omega)]);rw [if_pos (by omega)]
theorem xD (h:(nd T i).kind=19):aW T B i=tz [105,102] (i:Int) :: (aH true (bM T B i 0) ++ lz [116,104,101,110] (-1) :: (aH true (bM T B i 1) ++ lz [101,108,115,101] (-1) :: aH true (bM T B i 2))):=by
 unfold aW;simp only;(repeat rw [if_neg (by omega)]);rw [if_pos (by omega)]
theorem xE (h:(nd T i).kind=20):aW T B i=tz [108,101,116] (i:Int) :: lz (nd T i).text (-1) :: lz [61] (-1) :: (aH true (bM T B i 0) ++ lz [105,110] (-1) :: aH true (bM T B i 1)):=by
 unfold aW;simp only;(repeat rw [if_neg (by omega)]);rw [if_pos (by omega)]
theorem xG (h:(nd T i).kind=21):aW T B i=tz (nd T i).text (i:Int) :: tz [40] (-1) :: (aH false (dD T B i (nd T i).kids.length) ++ [tz [41] (-1)]):=by
 unfold aW;simp only;(repeat rw [if_neg (by omega)]);rw [if_pos (by omega)]
theorem xH (h:(nd T i).kind=22):aW T B i=bM T B i 0 ++ [tz [46] (i:Int),tz (nd T i).text (-1)]:=by
 unfold aW;simp only;(repeat rw [if_neg (by omega)]);rw [if_pos (by omega)]
theorem xI (h:(nd T i).kind=23):aW T B i=bM T B i 0 ++ tz [91] (i:Int) :: (aH false (bM T B i 1) ++ [tz [93] (-1)]):=by
 unfold aW;simp only;(repeat rw [if_neg (by omega)]);rw [if_pos (by omega)]
theorem xJ (h:(nd T i).kind=24):aW T B i=tz (nd T i).text (i:Int) :: tz [123] (-1) :: (aH false (dD T B i (nd T i).kids.length) ++ [tz [125] (-1)]):=by
 unfold aW;simp only;(repeat rw [if_neg (by omega)]);rw [if_pos (by omega)]
theorem xK (h:(nd T i).kind=25):aW T B i=tz (nd T i).text (i:Int) :: tz [58] (-1) :: aH true (bM T B i 0):=by
 unfold aW;simp only;(repeat rw [if_neg (by omega)]);rw [if_pos (by omega)]
theorem xR (h:(nd T i).kind=34):aW T B i=tz (nd T i).text (i:Int) :: tz [58] (-1) :: aH true (bM T B i 0):=by
 unfold aW;simp only;(repeat rw [if_neg (by omega)]);rw [if_pos (by omega)]
theorem xL (h:(nd T i).kind=26):aW T B i=tz [91] (i:Int) :: (aH false (dD T B i (nd T i).kids.length) ++ [tz [93] (-1)]):=by
 unfold aW;simp only;(repeat rw [if_neg (by omega)]);rw [if_pos (by omega)]
theorem xM (h:(nd T i).kind=30):aW T B i=[tz [105,110,116] (i:Int)]:=by
 unfold aW;simp only;(repeat rw [if_neg (by omega)]);rw [if_pos (by omega)]
theorem xO (h:(nd T i).kind=31):aW T B i=[tz [98,111,111,108] (i:Int)]:=by
 unfold aW;simp only;(repeat rw [if_neg (by omega)]);rw [if_pos (by omega)]
theorem xQ (h:(nd T i).kind=33):aW T B i=tz [91] (i:Int) :: (aH false (bM T B i 0) ++ tz [59] (-1) :: lz (Go.Lib.itoa (nd T i).n) (-1) :: [tz [93] (-1)]):=by
 unfold aW;simp only;(repeat rw [if_neg (by omega)]);rw [if_pos (by omega)]
theorem xU (h:(nd T i).kind=40):aW T B i=tz [99,104,111,111,115,101] (i:Int) :: lz (nd T i).text (-1) :: tz [58] (-1) :: (aH true (bM T B i 0) ++ tz [46,46] (-1) :: (aH false (bM T B i 1) ++ [tz [59] (-1)])):=by
 unfold aW;simp only;(repeat rw [if_neg (by omega)]);rw [if_pos (by omega)]
theorem xV (h:(nd T i).kind=41):aW T B i=tz [116,121,112,101] (i:Int) :: lz (nd T i).text (-1) :: lz [61] (-1) :: lz [123] (-1) :: (aH false (dD T B i (nd T i).kids.length) ++ [tz [125] (-1),tz [59] (-1)]):=by
 unfold aW;simp only;(repeat rw [if_neg (by omega)]);rw [if_pos (by omega)]
theorem xW (h:(nd T i).kind=42):aW T B i=tz [102,117,110] (i:Int) :: lz (nd T i).text (-1) :: tz [40] (-1) :: (aH false (dD T B i ((nd T i).kids.length - 2)) ++ tz [41] (-1) :: tz [58] (-1) :: (aH true (bM T B i ((nd T i).kids.length - 2)) ++ ((if 0 < (nd T i).n then [lz [117,112,116,111] (-1),lz (Go.Lib.itoa (nd T i).n) (-1)] else []) ++ lz [61] (-1) :: (aH true (bM T B i ((nd T i).kids.length - 1)) ++ [tz [59] (-1)])))):=by
 unfold aW;simp only;(repeat rw [if_neg (by omega)]);rw [if_pos (by omega)]
theorem xX (h:(nd T i).kind=43):aW T B i=tz [108,101,116] (i:Int) :: lz (nd T i).text (-1) :: lz [61] (-1) :: (aH true (bM T B i 0) ++ [tz [59] (-1)]):=by
 unfold aW;simp only;(repeat rw [if_neg (by omega)]);rw [if_pos (by omega)]
theorem xY (h:(nd T i).kind=44):aW T B i=tz [111,98,115,101,114,118,101] (i:Int) :: lz (nd T i).text (-1) :: tz [58] (-1) :: (aH true (bM T B i 0) ++ [tz [59] (-1)]):=by
 unfold aW;simp only;(repeat rw [if_neg (by omega)]);rw [if_pos (by omega)]
theorem xZ (h:(nd T i).kind=45):aW T B i=[tz [114,101,116,114,97,99,116] (i:Int),lz (nd T i).text (-1),tz [59] (-1)]:=by
 unfold aW;simp only;(repeat rw [if_neg (by omega)]);rw [if_pos (by omega)]
theorem x9 (h:(nd T i).kind=46):aW T B i=tz [97,115,107] (i:Int) :: lz (gG.getD (nd T i).n.toNat []) (-1) :: (aH true (dD T B i (nd T i).kids.length) ++ [tz [59] (-1)]):=by
 unfold aW;simp only;(repeat rw [if_neg (by omega)]);rw [if_pos (by omega)]
theorem yc (h:(nd T i).kind=0∨6≤(nd T i).kind∧(nd T i).kind≤18∨27≤(nd T i).kind∧(nd T i).kind≤29∨35≤(nd T i).kind∧(nd T i).kind≤39∨47≤(nd T i).kind):aW T B i=bM T B i 0 ++ lz (mQ (nd T i).kind) (i:Int) :: aH true (bM T B i 1):=by
 unfold aW;simp only;(repeat rw [if_neg (by omega)])
theorem XY (T:Tr)(B:Nat→List Pz)(i:Nat):aW T B i ≠ []:=by
 have a:(nd T i).kind=1∨(nd T i).kind=2∨(nd T i).kind=3∨(nd T i).kind=32∨(nd T i).kind=4∨(nd T i).kind=5∨(nd T i).kind=19∨(nd T i).kind=20∨(nd T i).kind=21∨(nd T i).kind=22∨(nd T i).kind=23∨(nd T i).kind=24∨(nd T i).kind=25∨(nd T i).kind=34∨(nd T i).kind=26∨(nd T i).kind=30∨(nd T i).kind=31∨(nd T i).kind=33∨(nd T i).kind=40∨(nd T i).kind=41∨(nd T i).kind=42∨(nd T i).kind=43∨(nd T i).kind=44∨(nd T i).kind=45∨(nd T i).kind=46∨((nd T i).kind=0∨6≤(nd T i).kind∧(nd T i).kind≤18∨27≤(nd T i).kind∧(nd T i).kind≤29∨35≤(nd T i).kind∧(nd T i).kind≤39∨47≤(nd T i).kind):=by omega
 rcases a with h | h | h | h | h | h | h | h | h | h | h | h | h | h | h | h | h | h | h | h | h | h | h | h | h | h
 ·rw [uq h];unfold gI;split <;> simp
 ·rw [BQ h];simp
 ·rw [BS h];simp
 ·rw [xP h];simp
 ·rw [BU h];simp
 ·rw [BZ h];simp
 ·rw [xD h];simp
 ·rw [xE h];simp
 ·rw [xG h];simp
 ·rw [xH h];simp
 ·rw [xI h];simp
 ·rw [xJ h];simp
 ·rw [xK h];simp
 ·rw [xR h];simp
 ·rw [xL h];simp
 ·rw [xM h];simp
 ·rw [xO h];simp
 ·rw [xQ h];simp
 ·rw [xU h];simp
 ·rw [xV h];simp
 ·rw [xW h];simp
 ·rw [xX h];simp
 ·rw [xY h];simp
 ·rw [xZ h];simp
 ·rw [x9 h];simp
 ·rw [yc h];simp
theorem Ju (T:Tr){f i:Nat}(h:i < f):ah T f i ≠ []:=by
 cases f with
 | zero=>omega
 | succ f=>exact XY T _ i
end
end Mist
namespace Mist
def mJ (B:Nat→List Pz)(ks:List Int):Nat:=(ks.map fun c=>(B c.toNat).length+3).sum
theorem yJ (B:Nat→List Pz)(a b:List Int):mJ B (a ++ b)=mJ B a+mJ B b:=by simp [mJ]
theorem zV (B:Nat→List Pz)(c:Int)(b:List Int):mJ B (c :: b)=(B c.toNat).length+3+mJ B b:=by simp [mJ]
theorem oO (T:Tr)(B:Nat→List Pz)(i j:Nat):(bM T B i j).length≤(B ((nd T i).kids.getD j 0).toNat).length+2:=by
 unfold bM;simp only
 split
 ·omega
 ·simp [ak]
theorem zL (T:Tr)(B:Nat→List Pz)(i:Nat):∀ m,m≤(nd T i).kids.length→(dZ (bM T B i) m).length≤mJ B ((nd T i).kids.take m):=by
 intro m
 induction m with
 | zero=>intro _;simp [dZ,mJ]
 | succ m b =>
  intro h;have c:=oO T B i m
  have e:(nd T i).kids.take (m+1)=(nd T i).kids.take m ++ [(nd T i).kids.getD m 0]:=by
   rw [List.take_succ_eq_append_getElem (by omega),ait,aip (by omega)];rfl
  rw [e,yJ,zV]
  have:=b (by omega)
  rw [dZ];split
  ·rename_i a;subst a;omega
  ·rw [aiA,List.length_cons,ak];omega
theorem aeN {l:List Int}(h:l.length=1):l=[l.getD 0 0]:=by
 match l,h with
 | [a],_=>rfl
theorem abP {l:List Int}(h:l.length=2):l=[l.getD 0 0,l.getD 1 0]:=by
 match l,h with
 | [a,b],_=>rfl
theorem aeO {l:List Int}(h:l.length=3):l=[l.getD 0 0,l.getD 1 0,l.getD 2 0]:=by
 match l,h with
 | [a,b,c],_=>rfl
theorem XH {l:List Int}(h:2≤l.length):l=l.take (l.length - 2) ++ [l.getD (l.length - 2) 0,l.getD (l.length - 1) 0]:=by
 have e:=List.take_append_drop (l.length - 2) l;have h2:(l.drop (l.length - 2)).length=2:=by rw [List.length_drop];omega
 have h3:=abP h2
 conv=>lhs;rw [← e]
 rw [h3]
 congr 1
 simp only [ait,List.getElem?_drop];rw [show l.length - 2+1=l.length - 1 by omega];rfl
theorem agT {B:Nat→List Pz}{l:List Int}(h:l.length=1):mJ B l=(B (l.getD 0 0).toNat).length+3:=by
 rw [aeN h];simp [mJ]
theorem agU {B:Nat→List Pz}{l:List Int}(h:l.length=2):mJ B l=(B (l.getD 0 0).toNat).length+3+((B (l.getD 1 0).toNat).length+3):=by
 rw [abP h];simp [mJ]
theorem agV {B:Nat→List Pz}{l:List Int}(h:l.length=3):mJ B l=(B (l.getD 0 0).toNat).length+3+((B (l.getD 1 0).toNat).length+3+((B (l.getD 2 0).toNat).length+3)):=by
 rw [aeO h];simp [mJ]
theorem abj {B:Nat→List Pz}{l:List Int}(h:2≤l.length):mJ B l=mJ B (l.take (l.length - 2))+((B (l.getD (l.length - 2) 0).toNat).length+3+((B (l.getD (l.length - 1) 0).toNat).length+3)):=by
 have e:=congrArg (mJ B) (XH h);rw [yJ] at e
 rw [e];simp [mJ]
structure ZW (T:Tr) (i:Nat):Prop where
 kind:(eZ (nd T i).kind || (nd T i).kind == 25 || gF (nd T i).kind || (nd T i).kind == 34 || dB (nd T i).kind)=true
 many:lD (nd T i)=true
 num:kG (nd T i)=true
 named:jN (nd T i).kind=isName (nd T i).text
 txt:jN (nd T i).kind=false→(nd T i).text=[]
 kid:∀ j,j < (nd T i).kids.length→jL (nd T i) j (nd T ((nd T i).kids.getD j 0).toNat).kind=true
 neg:∀ j,j < (nd T i).kids.length→(nd T ((nd T i).kids.getD j 0).toNat).kind=1→(nd T ((nd T i).kids.getD j 0).toNat).n < 0→(nd T i).kind=40
theorem U5 {T:Tr}{i:Nat}(h:gV T i=true):ZW T i:=by
 unfold gV at h
 simp only [aiE] at h
 obtain⟨⟨⟨⟨⟨⟨h1,h2⟩,h3⟩,h4⟩,h5⟩,h6⟩,h7⟩:=h
 refine⟨h1,h4,h5,by simpa using h2,fun e=>by rw [e] at h3;simpa using h3,fun j a=>?_,fun j a b c=>?_⟩
 ·have:=aiD.1 h7 j (List.mem_range.2 a)
  simp only [aiE] at this
  exact this.1
 ·have:=aiD.1 h7 j (List.mem_range.2 a)
  simp only [aiE] at this
  have h8:=this.2;rw [b,aiG c] at h8
  simpa using h8
theorem Tc {T:Tr}{i:Nat}(h:ZW T i)(B:Nat→List Pz):(aW T B i).length≤9+mJ B (nd T i).kids:=by
 have c:=h.many;have b:=h.kind;have k0:=oO T B i 0;have f:=oO T B i 1;have j:=oO T B i 2;have d:=zL T B i (nd T i).kids.length (aiv _);have k:=zL T B i ((nd T i).kids.length - 2) (by omega);have l:=oO T B i ((nd T i).kids.length - 2);have o:=oO T B i ((nd T i).kids.length - 1);rw [List.take_length] at d
 have q:=@agT B (nd T i).kids;have r:=@agU B (nd T i).kids;have t:=@agV B (nd T i).kids;have u:=@abj B (nd T i).kids;unfold lD at c
 unfold aW dD gI;simp only [ak,aiA,List.length_cons,List.length_nil,apply_ite List.length]
 generalize (bM T B i 0).length=A at *
 generalize (bM T B i 1).length=C at *
 generalize (bM T B i 2).length=D at *
 generalize (bM T B i ((nd T i).kids.length - 2)).length=G at *
 generalize (bM T B i ((nd T i).kids.length - 1)).length=H at *
 generalize (dZ (bM T B i) (nd T i).kids.length).length=E at *
 generalize (dZ (bM T B i) ((nd T i).kids.length - 2)).length=F at *
 generalize mJ B (nd T i).kids=x at *
 generalize mJ B ((nd T i).kids.take ((nd T i).kids.length - 2))=y at *
 generalize (nd T i).kids.length=m at *
 generalize (nd T i).kind=K at *
 generalize (nd T i).n=N at *
 simp [eZ,gF,dB] at b
 have e:K < 47:=by omega
 clear h b;have a:K=0∨K=1∨K=2∨K=3∨K=4∨K=5∨K=6∨K=7∨K=8∨K=9∨K=10∨K=11∨K=12∨K=13∨K=14∨K=15∨K=16∨K=17∨K=18∨K=19∨K=20∨K=21∨K=22∨K=23∨K=24∨K=25∨K=26∨K=27∨K=28∨K=29∨K=30∨K=31∨K=32∨K=33∨K=34∨K=35∨K=36∨K=37∨K=38∨K=39∨K=40∨K=41∨K=42∨K=43∨K=44∨K=45∨K=46:=by omega
 (repeat' (rcases a with rfl | a)) <;> (try subst a) <;> simp at c ⊢ <;> (repeat' split) <;> omega
theorem Fp {T:Tr}(l:∀ i,i < T.nodes.length→gV T i=true){a b:Nat}{c:List Int}(h:Fo T.nodes a b c):∀ f,b≤f→mJ (ah T f) c≤12 * (b - a):=by
 induction h with
 | nil=>intro f _;simp [mJ]
 | @snoc a m b c n h k e ih jh =>
  intro f r;obtain⟨f,rfl⟩:∃ d,f=d+1:=⟨f - 1,by omega⟩;have j:b < T.nodes.length:=(aiq.1 e).1;have h1:=ih (f+1) (by have:=k.le;omega);have h2:=jh f (by omega);have h3:=Tc (U5 (l b j)) (ah T f);rw [jX e] at h3
  have:=h.le
  have:=k.le
  rw [yJ,zV];simp only [aiC];have o:(ah T (f+1) b).length=(aW T (ah T f) b).length:=rfl;have q:mJ (ah T (f+1)) []=0:=rfl;omega
theorem y9 {T:Tr}(b:∀ i,i < T.nodes.length→gV T i=true)(hF:Fo T.nodes 0 T.nodes.length T.items){i f:Nat}(hi:i < T.nodes.length)(c:i < f):(ah T f i).length≤12 * (i+1):=by
 obtain⟨n,m,e,d,a⟩:=hF.each i (aix _) hi
 have:=Fp b (Fo.snoc (Fo.nil m) a e) f (by omega)
 rw [List.nil_append,zV] at this
 simp only [aiC] at this
 omega
end Mist
namespace Go.Proofs.YtajfdjikimiapaaGreatDoor
section
open Go.RowKit
def Pow (w : World) : Prop := Lib.TabBelow Tryz.prog w.heap.size w "internal/strconv.uint64pow10" .u64 Lib.pow10Tab
end
