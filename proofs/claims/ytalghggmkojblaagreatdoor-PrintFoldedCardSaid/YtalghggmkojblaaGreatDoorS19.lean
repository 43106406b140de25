/-
  A part of the proof.
-/
import Derived.Test.YtalghggmkojblaaGreatDoorS18
set_option linter.all false
set_option maxRecDepth 100000
set_option maxHeartbeats 4000000
namespace Go.Proofs.YtalghggmkojblaaGreatDoor
section
open Go.RowKit Mist
def iG:List (Nat × Value)→Nat→List MapEntry
 | [],_=>[]
 | (k,v) :: r,i=>⟨.int .u8 k,v,i⟩ :: iG r (i+1)
def rF (x:Nat):List (Nat × Value)→Option Value
 | []=>none
 | (k,v) :: r=>if x=k then some v else rF x r
theorem Dh (x:Nat):∀ (l:List (Nat × Value)) (i j:Nat),∃ n,Instr.findNow (.int .u8) (.int .u8 x) (iG l j) i=some ((rF x l).map fun v=>(n,v))
 | [],i,j=>⟨0,rfl⟩
 | (k,v) :: r,i,j=>by
  simp only [iG,rF,Instr.findNow,Instr.sameNow,if_true];by_cases h:x=k
  ·subst h;exact⟨i,by simp⟩
  ·obtain⟨n,a⟩:=Dh x r (i+1) (j+1);have h2:((x:Int) == (k:Int))=false:=by simp;omega
   exact⟨n,by simp only [h2,if_neg h,a]⟩
theorem Hu (b:Bool)(x:Int)(w:World):(Instr.checkKey b 10000 5 (.int .u8 x)).run Tryz.prog w=.ok () w :=
 MapKept.run_checkKey Tryz.underlying5 (by trivial) b 9999
theorem Gu (T E:TypeId)(z:Value)(a:Tryz.prog.underlying T=some (.map 5 E))(w:World)(h:(zeroValue E).run Tryz.prog w=.ok z w)(l:List (Nat × Value))(m c:Nat)(e:w.heap[m]? = some (.map (iG l 0).toArray c))(x:Nat) :
  (Instr.lookup T (.map (some m)) (.int .u8 x) false).run Tryz.prog w=.ok ((rF x l).getD z) w:=by
 have d:(getObj m).run Tryz.prog w=.ok (.map (iG l 0).toArray c) w:=MapKept.run_getObj_map e;obtain⟨n,f⟩:=Dh x l 0 0
 have b:(Instr.findKey 5 (.int .u8 x) (iG l 0)).run Tryz.prog w=.ok ((rF x l).map fun v=>(n,v)) w:=by
  simp only [Instr.findKey,Sem.run_bind,run_underlying Tryz.underlying5,Result.andThen_ok,f];rfl
 unfold Instr.lookup;simp only [Sem.run_bind,run_underlying a,Result.andThen_ok,d,Hu,b,Sem.run_pure]
 cases rF x l with
 | none =>
  simp only [Option.map_none,Sem.run_bind,h,Result.andThen_ok,Sem.run_pure];rfl
 | some v =>
  simp only [Option.map_some,Sem.run_pure,Result.andThen_ok];rfl
theorem Nt:∀ (l:List (Nat × Value)) (k:Nat) (v:Value) (i:Nat),iG (l ++ [(k,v)]) i=iG l i ++ [⟨.int .u8 k,v,i+l.length⟩]
 | [],_,_,_=>rfl
 | (a,b) :: r,k,v,i=>by
  simp only [List.cons_append,iG,Nt r k v (i+1),List.length_cons];rw [show i+1+r.length=i+(r.length+1) by omega]
theorem iO (T E:TypeId)(c:Tryz.prog.underlying T=some (.map 5 E))(w:World)(l:List (Nat × Value))(k:Nat)(v:Value)(h:rF k l=none) :
  (Instr.mapUpdate T (.map (some w.heap.size)) (.int .u8 k) v).run Tryz.prog (w.alloc (.map (iG l 0).toArray l.length))=.ok () (w.alloc (.map (iG (l ++ [(k,v)]) 0).toArray (l.length+1))):=by
 have b:(w.alloc (.map (iG l 0).toArray l.length)).heap[w.heap.size]? = some (.map (iG l 0).toArray l.length):=heap_alloc_new w _;have f:(getObj w.heap.size).run Tryz.prog (w.alloc (.map (iG l 0).toArray l.length))=.ok (.map (iG l 0).toArray l.length) (w.alloc (.map (iG l 0).toArray l.length)):=MapKept.run_getObj_map b;obtain⟨n,a⟩:=Dh k l 0 0;rw [h] at a
 have d:(Instr.findKey 5 (.int .u8 k) (iG l 0)).run Tryz.prog (w.alloc (.map (iG l 0).toArray l.length))=.ok none (w.alloc (.map (iG l 0).toArray l.length)):=by
  simp only [Instr.findKey,Sem.run_bind,run_underlying Tryz.underlying5,Result.andThen_ok,a];rfl
 have j:∀ o,(setObj w.heap.size o).run Tryz.prog (w.alloc (.map (iG l 0).toArray l.length))=.ok () (w.alloc o):=by
  intro o;rw [MapKept.run_setObj_map o b,heap_put];rfl
 have e:(iG l 0).toArray.push ⟨.int .u8 k,v,l.length⟩=(iG (l ++ [(k,v)]) 0).toArray:=by
  rw [Nt];simp
 unfold Instr.mapUpdate;simp only [Sem.run_bind,run_underlying c,Result.andThen_ok,f,Hu,d,j,e]
def J7:List (Nat × Value):=[(19,.int .i64 1),(20,.int .i64 1),(18,.int .i64 2),(17,.int .i64 3),(5,.int .i64 4),(11,.int .i64 5),(12,.int .i64 5),(13,.int .i64 5),(14,.int .i64 5),(15,.int .i64 5),(16,.int .i64 5),(6,.int .i64 6),(7,.int .i64 6),(8,.int .i64 7),(9,.int .i64 7),(10,.int .i64 7),(4,.int .i64 8)]
def uR (k:Nat):Nat:=if k=19 then 1 else if k=20 then 1 else if k=18 then 2 else if k=17 then 3 else if k=5 then 4 else if k=11 then 5 else if k=12 then 5 else if k=13 then 5 else if k=14 then 5 else if k=15 then 5 else if k=16 then 5 else if k=6 then 6 else if k=7 then 6 else if k=8 then 7 else if k=9 then 7 else if k=10 then 7 else if k=4 then 8 else 0
theorem acK (x:Nat):(rF x J7).getD (.int .i64 0)=.int .i64 (uR x:Nat):=by
 by_cases h19:x=19
 ·subst h19;rfl
 by_cases h20:x=20
 ·subst h20;rfl
 by_cases h18:x=18
 ·subst h18;rfl
 by_cases h17:x=17
 ·subst h17;rfl
 by_cases h5:x=5
 ·subst h5;rfl
 by_cases h11:x=11
 ·subst h11;rfl
 by_cases h12:x=12
 ·subst h12;rfl
 by_cases h13:x=13
 ·subst h13;rfl
 by_cases h14:x=14
 ·subst h14;rfl
 by_cases h15:x=15
 ·subst h15;rfl
 by_cases h16:x=16
 ·subst h16;rfl
 by_cases h6:x=6
 ·subst h6;rfl
 by_cases h7:x=7
 ·subst h7;rfl
 by_cases h8:x=8
 ·subst h8;rfl
 by_cases h9:x=9
 ·subst h9;rfl
 by_cases h10:x=10
 ·subst h10;rfl
 by_cases h4:x=4
 ·subst h4;rfl
 simp [J7,rF,uR,h19,h20,h18,h17,h5,h11,h12,h13,h14,h15,h16,h6,h7,h8,h9,h10,h4]
def qD (k:Nat):Bool:=decide (1≤k) && decide (k≤26) && decide (k ≠ 25)
def qL (k:Nat):Nat × Nat:=if qD k then (if uR k=0 then (9,0) else (uR k,0)) else (0,2)
theorem Y1 (w:World):(zeroValue 3).run Tryz.prog w=.ok (.int .i64 0) w:=by kernel_rfl
theorem abP (w:World)(m c:Nat)(a:w.heap[m]? = some (.map (iG J7 0).toArray c))(x:Nat):(Instr.lookup 213 (.map (some m)) (.int .u8 x) false).run Tryz.prog w=.ok (.int .i64 (uR x:Nat)) w:=by
 have h:=Gu 213 3 (.int .i64 0) Tryz.underlying213 w (Y1 w) J7 m c a x;rw [h,acK]
theorem Yi (w:World):Calls Tryz.prog 177 #[] w fun e l=>e=.returned (.map (some w.heap.size))∧l=w.alloc (.map (iG J7 0).toArray 17):=by
 have a:=@run_makeMap Tryz.prog;have m:(Instr.mapUpdate 213 (.map (some w.heap.size)) (.int .u8 19) (.int .i64 1)).run Tryz.prog (w.alloc (.map #[] 0))=.ok () (w.alloc (.map (iG [(19,.int .i64 1)] 0).toArray 1)):=iO 213 3 Tryz.underlying213 w [] 19 (.int .i64 1) (by decide +kernel);have n:(Instr.mapUpdate 213 (.map (some w.heap.size)) (.int .u8 20) (.int .i64 1)).run Tryz.prog (w.alloc (.map (iG [(19,.int .i64 1)] 0).toArray 1))=.ok () (w.alloc (.map (iG [(19,.int .i64 1),(20,.int .i64 1)] 0).toArray 2)):=iO 213 3 Tryz.underlying213 w [(19,.int .i64 1)] 20 (.int .i64 1) (by decide +kernel);have q:(Instr.mapUpdate 213 (.map (some w.heap.size)) (.int .u8 18) (.int .i64 2)).run Tryz.prog (w.alloc (.map (iG [(19,.int .i64 1),(20,.int .i64 1)] 0).toArray 2))=.ok () (w.alloc (.map (iG [(19,.int .i64 1),(20,.int .i64 1),(18,.int .i64 2)] 0).toArray 3)):=iO 213 3 Tryz.underlying213 w [(19,.int .i64 1),(20,.int .i64 1)] 18 (.int .i64 2) (by decide +kernel);have r:(Instr.mapUpdate 213 (.map (some w.heap.size)) (.int .u8 17) (.int .i64 3)).run Tryz.prog (w.alloc (.map (iG [(19,.int .i64 1),(20,.int .i64 1),(18,.int .i64 2)] 0).toArray 3))=.ok () (w.alloc (.map (iG [(19,.int .i64 1),(20,.int .i64 1),(18,.int .i64 2),(17,.int .i64 3)] 0).toArray 4)):=iO 213 3 Tryz.underlying213 w [(19,.int .i64 1),(20,.int .i64 1),(18,.int .i64 2)] 17 (.int .i64 3) (by decide +kernel);have t:(Instr.mapUpdate 213 (.map (some w.heap.size)) (.int .u8 5) (.int .i64 4)).run Tryz.prog (w.alloc (.map (iG [(19,.int .i64 1),(20,.int .i64 1),(18,.int .i64 2),(17,.int .i64 3)] 0).toArray 4))=.ok () (w.alloc (.map (iG [(19,.int .i64 1),(20,.int .i64 1),(18,.int .i64 2),(17,.int .i64 3),(5,.int .i64 4)] 0).toArray 5)):=iO 213 3 Tryz.underlying213 w [(19,.int .i64 1),(20,.int .i64 1),(18,.int .i64 2),(17,.int .i64 3)] 5 (.int .i64 4) (by decide +kernel);have u:(Instr.mapUpdate 213 (.map (some w.heap.size)) (.int .u8 11) (.int .i64 5)).run Tryz.prog (w.alloc (.map (iG [(19,.int .i64 1),(20,.int .i64 1),(18,.int .i64 2),(17,.int .i64 3),(5,.int .i64 4)] 0).toArray 5))=.ok () (w.alloc (.map (iG [(19,.int .i64 1),(20,.int .i64 1),(18,.int .i64 2),(17,.int .i64 3),(5,.int .i64 4),(11,.int .i64 5)] 0).toArray 6)):=iO 213 3 Tryz.underlying213 w [(19,.int .i64 1),(20,.int .i64 1),(18,.int .i64 2),(17,.int .i64 3),(5,.int .i64 4)] 11 (.int .i64 5) (by decide +kernel);have v:(Instr.mapUpdate 213 (.map (some w.heap.size)) (.int .u8 12) (.int .i64 5)).run Tryz.prog (w.alloc (.map (iG [(19,.int .i64 1),(20,.int .i64 1),(18,.int .i64 2),(17,.int .i64 3),(5,.int .i64 4),(11,.int .i64 5)] 0).toArray 6))=.ok () (w.alloc (.map (iG [(19,.int .i64 1),(20,.int .i64 1),(18,.int .i64 2),(17,.int .i64 3),(5,.int .i64 4),(11,.int .i64 5),(12,.int .i64 5)] 0).toArray 7)):=iO 213 3 Tryz.underlying213 w [(19,.int .i64 1),(20,.int .i64 1),(18,.int .i64 2),(17,.int .i64 3),(5,.int .i64 4),(11,.int .i64 5)] 12 (.int .i64 5) (by decide +kernel);have x:(Instr.mapUpdate 213 (.map (some w.heap.size)) (.int .u8 13) (.int .i64 5)).run Tryz.prog (w.alloc (.map (iG [(19,.int .i64 1),(20,.int .i64 1),(18,.int .i64 2),(17,.int .i64 3),(5,.int .i64 4),(11,.int .i64 5),(12,.int .i64 5)] 0).toArray 7))=.ok () (w.alloc (.map (iG [(19,.int .i64 1),(20,.int .i64 1),(18,.int .i64 2),(17,.int .i64 3),(5,.int .i64 4),(11,.int .i64 5),(12,.int .i64 5),(13,.int .i64 5)] 0).toArray 8)):=iO 213 3 Tryz.underlying213 w [(19,.int .i64 1),(20,.int .i64 1),(18,.int .i64 2),(17,.int .i64 3),(5,.int .i64 4),(11,.int .i64 5),(12,.int .i64 5)] 13 (.int .i64 5) (by decide +kernel);have y:(Instr.mapUpdate 213 (.map (some w.heap.size)) (.int .u8 14) (.int .i64 5)).run Tryz.prog (w.alloc (.map (iG [(19,.int .i64 1),(20,.int .i64 1),(18,.int .i64 2),(17,.int .i64 3),(5,.int .i64 4),(11,.int .i64 5),(12,.int .i64 5),(13,.int .i64 5)] 0).toArray 8))=.ok () (w.alloc (.map (iG [(19,.int .i64 1),(20,.int .i64 1),(18,.int .i64 2),(17,.int .i64 3),(5,.int .i64 4),(11,.int .i64 5),(12,.int .i64 5),(13,.int .i64 5),(14,.int .i64 5)] 0).toArray 9)):=iO 213 3 Tryz.underlying213 w [(19,.int .i64 1),(20,.int .i64 1),(18,.int .i64 2),(17,.int .i64 3),(5,.int .i64 4),(11,.int .i64 5),(12,.int .i64 5),(13,.int .i64 5)] 14 (.int .i64 5) (by decide +kernel);have A:(Instr.mapUpdate 213 (.map (some w.heap.size)) (.int .u8 15) (.int .i64 5)).run Tryz.prog (w.alloc (.map (iG [(19,.int .i64 1),(20,.int .i64 1),(18,.int .i64 2),(17,.int .i64 3),(5,.int .i64 4),(11,.int .i64 5),(12,.int .i64 5),(13,.int .i64 5),(14,.int .i64 5)] 0).toArray 9))=.ok () (w.alloc (.map (iG [(19,.int .i64 1),(20,.int .i64 1),(18,.int .i64 2),(17,.int .i64 3),(5,.int .i64 4),(11,.int .i64 5),(12,.int .i64 5),(13,.int .i64 5),(14,.int .i64 5),(15,.int .i64 5)] 0).toArray 10)):=iO 213 3 Tryz.underlying213 w [(19,.int .i64 1),(20,.int .i64 1),(18,.int .i64 2),(17,.int .i64 3),(5,.int .i64 4),(11,.int .i64 5),(12,.int .i64 5),(13,.int .i64 5),(14,.int .i64 5)] 15 (.int .i64 5) (by decide +kernel);have b:(Instr.mapUpdate 213 (.map (some w.heap.size)) (.int .u8 16) (.int .i64 5)).run Tryz.prog (w.alloc (.map (iG [(19,.int .i64 1),(20,.int .i64 1),(18,.int .i64 2),(17,.int .i64 3),(5,.int .i64 4),(11,.int .i64 5),(12,.int .i64 5),(13,.int .i64 5),(14,.int .i64 5),(15,.int .i64 5)] 0).toArray 10))=.ok () (w.alloc (.map (iG [(19,.int .i64 1),(20,.int .i64 1),(18,.int .i64 2),(17,.int .i64 3),(5,.int .i64 4),(11,.int .i64 5),(12,.int .i64 5),(13,.int .i64 5),(14,.int .i64 5),(15,.int .i64 5),(16,.int .i64 5)] 0).toArray 11)):=iO 213 3 Tryz.underlying213 w [(19,.int .i64 1),(20,.int .i64 1),(18,.int .i64 2),(17,.int .i64 3),(5,.int .i64 4),(11,.int .i64 5),(12,.int .i64 5),(13,.int .i64 5),(14,.int .i64 5),(15,.int .i64 5)] 16 (.int .i64 5) (by decide +kernel);have c:(Instr.mapUpdate 213 (.map (some w.heap.size)) (.int .u8 6) (.int .i64 6)).run Tryz.prog (w.alloc (.map (iG [(19,.int .i64 1),(20,.int .i64 1),(18,.int .i64 2),(17,.int .i64 3),(5,.int .i64 4),(11,.int .i64 5),(12,.int .i64 5),(13,.int .i64 5),(14,.int .i64 5),(15,.int .i64 5),(16,.int .i64 5)] 0).toArray 11))=.ok () (w.alloc (.map (iG [(19,.int .i64 1),(20,.int .i64 1),(18,.int .i64 2),(17,.int .i64 3),(5,.int .i64 4),(11,.int .i64 5),(12,.int .i64 5),(13,.int .i64 5),(14,.int .i64 5),(15,.int .i64 5),(16,.int .i64 5),(6,.int .i64 6)] 0).toArray 12)):=iO 213 3 Tryz.underlying213 w [(19,.int .i64 1),(20,.int .i64 1),(18,.int .i64 2),(17,.int .i64 3),(5,.int .i64 4),(11,.int .i64 5),(12,.int .i64 5),(13,.int .i64 5),(14,.int .i64 5),(15,.int .i64 5),(16,.int .i64 5)] 6 (.int .i64 6) (by decide +kernel);have d:(Instr.mapUpdate 213 (.map (some w.heap.size)) (.int .u8 7) (.int .i64 6)).run Tryz.prog (w.alloc (.map (iG [(19,.int .i64 1),(20,.int .i64 1),(18,.int .i64 2),(17,.int .i64 3),(5,.int .i64 4),(11,.int .i64 5),(12,.int .i64 5),(13,.int .i64 5),(14,.int .i64 5),(15,.int .i64 5),(16,.int .i64 5),(6,.int .i64 6)] 0).toArray 12))=.ok () (w.alloc (.map (iG [(19,.int .i64 1),(20,.int .i64 1),(18,.int .i64 2),(17,.int .i64 3),(5,.int .i64 4),(11,.int .i64 5),(12,.int .i64 5),(13,.int .i64 5),(14,.int .i64 5),(15,.int .i64 5),(16,.int .i64 5),(6,.int .i64 6),(7,.int .i64 6)] 0).toArray 13)):=iO 213 3 Tryz.underlying213 w [(19,.int .i64 1),(20,.int .i64 1),(18,.int .i64 2),(17,.int .i64 3),(5,.int .i64 4),(11,.int .i64 5),(12,.int .i64 5),(13,.int .i64 5),(14,.int .i64 5),(15,.int .i64 5),(16,.int .i64 5),(6,.int .i64 6)] 7 (.int .i64 6) (by decide +kernel);have f:(Instr.mapUpdate 213 (.map (some w.heap.size)) (.int .u8 8) (.int .i64 7)).run Tryz.prog (w.alloc (.map (iG [(19,.int .i64 1),(20,.int .i64 1),(18,.int .i64 2),(17,.int .i64 3),(5,.int .i64 4),(11,.int .i64 5),(12,.int .i64 5),(13,.int .i64 5),(14,.int .i64 5),(15,.int .i64 5),(16,.int .i64 5),(6,.int .i64 6),(7,.int .i64 6)] 0).toArray 13))=.ok () (w.alloc (.map (iG [(19,.int .i64 1),(20,.int .i64 1),(18,.int .i64 2),(17,.int .i64 3),(5,.int .i64 4),(11,.int .i64 5),(12,.int .i64 5),(13,.int .i64 5),(14,.int .i64 5),(15,.int .i64 5),(16,.int .i64 5),(6,.int .i64 6),(7,.int .i64 6),(8,.int .i64 7)] 0).toArray 14)):=iO 213 3 Tryz.underlying213 w [(19,.int .i64 1),(20,.int .i64 1),(18,.int .i64 2),(17,.int .i64 3),(5,.int .i64 4),(11,.int .i64 5),(12,.int .i64 5),(13,.int .i64 5),(14,.int .i64 5),(15,.int .i64 5),(16,.int .i64 5),(6,.int .i64 6),(7,.int .i64 6)] 8 (.int .i64 7) (by decide +kernel);have h:(Instr.mapUpdate 213 (.map (some w.heap.size)) (.int .u8 9) (.int .i64 7)).run Tryz.prog (w.alloc (.map (iG [(19,.int .i64 1),(20,.int .i64 1),(18,.int .i64 2),(17,.int .i64 3),(5,.int .i64 4),(11,.int .i64 5),(12,.int .i64 5),(13,.int .i64 5),(14,.int .i64 5),(15,.int .i64 5),(16,.int .i64 5),(6,.int .i64 6),(7,.int .i64 6),(8,.int .i64 7)] 0).toArray 14))=.ok () (w.alloc (.map (iG [(19,.int .i64 1),(20,.int .i64 1),(18,.int .i64 2),(17,.int .i64 3),(5,.int .i64 4),(11,.int .i64 5),(12,.int .i64 5),(13,.int .i64 5),(14,.int .i64 5),(15,.int .i64 5),(16,.int .i64 5),(6,.int .i64 6),(7,.int .i64 6),(8,.int .i64 7),(9,.int .i64 7)] 0).toArray 15)):=iO 213 3 Tryz.underlying213 w [(19,.int .i64 1),(20,.int .i64 1),(18,.int .i64 2),(17,.int .i64 3),(5,.int .i64 4),(11,.int .i64 5),(12,.int .i64 5),(13,.int .i64 5),(14,.int .i64 5),(15,.int .i64 5),(16,.int .i64 5),(6,.int .i64 6),(7,.int .i64 6),(8,.int .i64 7)] 9 (.int .i64 7) (by decide +kernel);have j:(Instr.mapUpdate 213 (.map (some w.heap.size)) (.int .u8 10) (.int .i64 7)).run Tryz.prog (w.alloc (.map (iG [(19,.int .i64 1),(20,.int .i64 1),(18,.int .i64 2),(17,.int .i64 3),(5,.int .i64 4),(11,.int .i64 5),(12,.int .i64 5),(13,.int .i64 5),(14,.int .i64 5),(15,.int .i64 5),(16,.int .i64 5),(6,.int .i64 6),(7,.int .i64 6),(8,.int .i64 7),(9,.int .i64 7)] 0).toArray 15))=.ok () (w.alloc (.map (iG [(19,.int .i64 1),(20,.int .i64 1),(18,.int .i64 2),(17,.int .i64 3),(5,.int .i64 4),(11,.int .i64 5),(12,.int .i64 5),(13,.int .i64 5),(14,.int .i64 5),(15,.int .i64 5),(16,.int .i64 5),(6,.int .i64 6),(7,.int .i64 6),(8,.int .i64 7),(9,.int .i64 7),(10,.int .i64 7)] 0).toArray 16)):=iO 213 3 Tryz.underlying213 w [(19,.int .i64 1),(20,.int .i64 1),(18,.int .i64 2),(17,.int .i64 3),(5,.int .i64 4),(11,.int .i64 5),(12,.int .i64 5),(13,.int .i64 5),(14,.int .i64 5),(15,.int .i64 5),(16,.int .i64 5),(6,.int .i64 6),(7,.int .i64 6),(8,.int .i64 7),(9,.int .i64 7)] 10 (.int .i64 7) (by decide +kernel);have k:(Instr.mapUpdate 213 (.map (some w.heap.size)) (.int .u8 4) (.int .i64 8)).run Tryz.prog (w.alloc (.map (iG [(19,.int .i64 1),(20,.int .i64 1),(18,.int .i64 2),(17,.int .i64 3),(5,.int .i64 4),(11,.int .i64 5),(12,.int .i64 5),(13,.int .i64 5),(14,.int .i64 5),(15,.int .i64 5),(16,.int .i64 5),(6,.int .i64 6),(7,.int .i64 6),(8,.int .i64 7),(9,.int .i64 7),(10,.int .i64 7)] 0).toArray 16))=.ok () (w.alloc (.map (iG [(19,.int .i64 1),(20,.int .i64 1),(18,.int .i64 2),(17,.int .i64 3),(5,.int .i64 4),(11,.int .i64 5),(12,.int .i64 5),(13,.int .i64 5),(14,.int .i64 5),(15,.int .i64 5),(16,.int .i64 5),(6,.int .i64 6),(7,.int .i64 6),(8,.int .i64 7),(9,.int .i64 7),(10,.int .i64 7),(4,.int .i64 8)] 0).toArray 17)):=iO 213 3 Tryz.underlying213 w [(19,.int .i64 1),(20,.int .i64 1),(18,.int .i64 2),(17,.int .i64 3),(5,.int .i64 4),(11,.int .i64 5),(12,.int .i64 5),(13,.int .i64 5),(14,.int .i64 5),(15,.int .i64 5),(16,.int .i64 5),(6,.int .i64 6),(7,.int .i64 6),(8,.int .i64 7),(9,.int .i64 7),(10,.int .i64 7)] 4 (.int .i64 8) (by decide +kernel);go_in
 go_wp2_with fail;go_ret;exact⟨rfl,rfl⟩
theorem FZ (k:Nat)(w:World):Calls Tryz.prog 142 #[.int .u8 k] w fun e f=>e=.returned (.bool (qD k))∧f=w:=by
 go_in
 by_cases h1:1≤k
 ·have b:decide ((1:Int)≤(k:Int))=true:=amW (by omega);by_cases h2:k≤26
  ·have c:decide ((k:Int)≤26)=true:=amW (by omega);by_cases h3:k=25
   ·have d:((k:Int) != 25)=false:=by rw [h3];rfl
    have a:=O (show qD k=false by subst h3;rfl);clear h3;go_wp2;go_ret;exact⟨(by rw [a.o];rfl),rfl⟩
   ·have d:((k:Int) != 25)=true:=by simp [bne];omega
    have a:=O (show qD k=true by simp [qD];omega);clear h3;go_wp2;go_ret;exact⟨(by rw [a.o];rfl),rfl⟩
  ·have c:decide ((k:Int)≤26)=false:=amX (by omega);have a:=O (show qD k=false by simp [qD];omega);go_wp2;go_ret;exact⟨(by rw [a.o];rfl),rfl⟩
 ·have b:decide ((1:Int)≤(k:Int))=false:=amX (by omega);have a:=O (show qD k=false by simp [qD];omega);go_wp2;go_ret;exact⟨(by rw [a.o];rfl),rfl⟩
theorem Yh {k:Nat}(h:qD k=false):qL k=(0,2):=by unfold qL;simp [h]
theorem Py {k:Nat}(h:qD k=true)(h2:uR k ≠ 0):qL k=(uR k,0):=by unfold qL;simp [h,h2]
theorem Px {k:Nat}(h:qD k=true)(h2:uR k=0):qL k=(9,0):=by unfold qL;simp [h,h2]
theorem acG (k:Nat)(w:World):Calls Tryz.prog 153 #[.int .u8 k] w fun e q=>e=.returned (.tuple #[.int .i64 (qL k).1,.int .i64 (qL k).2])∧Below w.heap.size w q:=by
 have a:uR k≤8:=by
  by_cases h:k≤26
  ·exact (by decide:∀ k≤26,uR k≤8) k h
  ·unfold uR;simp [show k ≠ 19 by omega,show k ≠ 20 by omega,show k ≠ 18 by omega,show k ≠ 17 by omega,show k ≠ 5 by omega,show k ≠ 11 by omega,show k ≠ 12 by omega,show k ≠ 13 by omega,show k ≠ 14 by omega,show k ≠ 15 by omega,show k ≠ 16 by omega,show k ≠ 6 by omega,show k ≠ 7 by omega,show k ≠ 8 by omega,show k ≠ 9 by omega,show k ≠ 10 by omega,show k ≠ 4 by omega]
 go_in
 go_wp2_with fail;refine (FZ k w).mono ?_;rintro e w1⟨rfl,rfl⟩;rcases c:qD k with _ | _
 ·have d:=O (Yh c);clear c;go_wp2;go_ret2
  exact⟨by rw [d.o];rfl,Below.refl _ _⟩
 ·have j:=O (heap_alloc_new w1 (.map (iG J7 0).toArray 17));have f:=abP _ _ _ j.o k;obtain⟨R,b⟩:∃ R,R=uR k:=⟨_,rfl⟩;rw [← b] at f a
  go_wp2_with fail;refine (Yi w1).mono ?_;rintro e r⟨rfl,rfl⟩;by_cases h0:R=0
  ·have d:=O (Px c (b.symm.trans h0));clear c b;have m:decide ((0:Int) < (R:Int))=false:=amX (by omega);have n:decide (0 < R)=false:=amX (by omega);clear h0;go_wp2_with fail;go_ret2
   exact⟨by rw [d.o];rfl,(Below.refl _ _).alloc (amL _) _⟩
  ·have d:=O (Py c (fun e=>h0 (b.trans e)));have m:decide ((0:Int) < (R:Int))=true:=amW (by omega);have n:decide (0 < R)=true:=amW (by omega);have l:=O b;clear h0 c b;go_wp2_with fail;go_ret2
   exact⟨by rw [d.o,← l.o];rfl,(Below.refl _ _).alloc (amL _) _⟩
end
set_option linter.all false
section
open Go.RowKit Mist
attribute [local go_sem] ak aN aV aF aj
theorem acF (k:Nat):(qL k).1=pR k:=by
 by_cases h:k < 27
 ·have:∀ j:Fin 27,(qL j.val).1=pR j.val:=by decide
  exact this ⟨k,h⟩
 ·have e:qD k=false:=by unfold qD;simp;omega
  unfold qL pR;rw [e,if_neg (by simp),if_neg (by omega),if_neg (by omega),if_neg (by omega),if_neg (by omega),if_neg (by omega),if_neg (by omega),if_neg (by omega),if_neg (by omega),if_neg (by omega)]
section
variable {S:Sz} {B g:Nat} {w W:World} {iv pv:Value} {ps:List Pz}
theorem acH {A q:Option Addr}{c n i:Nat}{xs:List NV}{d:List Int}{x:NV}(h:PZ S B g w W (.slice A n c) iv pv ps)(k:uZ W A q xs d)(m:xs.length=n)(a:xs[i]? = some x) :
  Calls Tryz.prog 120 #[.pointer (some ⟨g,0,none⟩),.int .i64 i] W fun e t=>e=.returned (.int .i64 (pR x.1.kind:Nat))∧Below W.heap.size W t:=by
 have hi:i < n:=by rw [← m];exact (amG.1 a).1
 obtain⟨b,o,u,j⟩:=k.nodes (by omega);subst u;have k0:=j.c0 i x a;obtain⟨K,f⟩:∃ K,K=x.1.kind:=⟨_,rfl⟩;rw [← f] at k0 ⊢
 have H:=O h;have v:=h.blk.cell 0;have C:(0:Int)≤(i:Int):=by omega
 have D:(i:Int) < (n:Int):=by omega
 clear h k a j m f;go_in
 go_wp2_with fail;refine (acG K W).mono ?_;rintro e y⟨rfl,l⟩;rw [acF];have r:=O l;clear l;go_wp2_with fail;go_ret;exact⟨by first | rfl | simp,r.o⟩
end
end
set_option linter.all false
section
open Go.RowKit Mist
attribute [local go_sem] ak aN aV aF aj
def oL (own j r1 r2:Nat):Bool :=
 if own=4∨own=5∨own=22 then decide (r1≤r2)
 else if own=23 then decide (0 < j) || decide (r1≤r2)
 else if 6≤own∧own≤10∨own=17∨own=18 then decide (r1 < r2) || (decide (r2=r1) && decide (j=0))
 else if 11≤own∧own≤16 then decide (r1 < r2)
 else true
section
variable {S:Sz} {B g:Nat} {w W:World} {iv pv:Value} {ps:List Pz}
theorem agc {A Bi:Option Addr}{c n i j q:Nat}{xs:List NV}{its:List Int}{x y:NV}(h:PZ S B g w W (.slice A n c) iv pv ps)(hT:uZ W A Bi xs its)(hn:xs.length=n)(C:xs[i]? = some x)(hj:x.1.kids[j]? = some (q:Int))(hy:xs[q]? = some y) :
  Calls Tryz.prog 87 #[.pointer (some ⟨g,0,none⟩),.int .i64 i,.int .i64 j] W fun e W'=>e=.returned (.bool (zF x.1.kind j y.1.kind))∧Below W.heap.size W W':=by
 have hi:i < n:=by rw [← hn];exact (amG.1 C).1
 have hjl:j < x.1.kids.length:=(amG.1 hj).1;have HR:=O fun W2 (f:Below W.heap.size W W2)=>acH (h.below f) (hT.below f) hn C
 have HS:=O fun W2 (f:Below W.heap.size W W2)=>acH (h.below f) (hT.below f) hn hy
 obtain⟨b,o,hA,G⟩:=hT.nodes (by omega);subst hA;have k0:=G.c0 i x C;have k1:=G.c1 i x C;have k2:=G.c2 i x C;have k3:=G.c3 i x C;have k4:=G.c4 i x C;obtain⟨Ka,kc,V,hkl,R⟩:=G.kid C;obtain⟨kb,E,hKa,u,Q⟩:=R.ex (by omega);have kq:=Q j _ hj;rw [V] at k3
 subst hKa;have V5:=O kq;obtain⟨K,hK⟩:∃ K,K=x.1.kind:=⟨_,rfl⟩;obtain⟨r1,v⟩:∃ r,r=pR x.1.kind:=⟨_,rfl⟩;obtain⟨r2,J⟩:∃ r,r=pR y.1.kind:=⟨_,rfl⟩;obtain⟨Z,I⟩:∃ m,m=x.1.kids.length:=⟨_,rfl⟩;rw [← v] at HR
 rw [← J] at HS
 rw [← hK] at k0
 rw [← I] at k3 hjl
 obtain⟨⟨kd,tx,nn,ks,at_⟩,xv⟩:=x;simp only at k0 k1 k2 k3 k4 hK v I
 have M:=O v;have N:=O J;clear v J;have HP:=O h;have c0:=h.blk.cell 0;have HQ:=O (show zF kd j y.1.kind=zF kd j y.1.kind from rfl);have y0:(0:Int)≤(i:Int):=by omega
 have y1:(i:Int) < (n:Int):=by omega
 have y2:(0:Int)≤(j:Int):=by omega
 have y3:(j:Int) < (Z:Int):=by omega
 have hlw:=h.blk.lt;clear h hT C hj hy G hn V hkl R Q I;go_in
 go_upto_region 2 with (fail)
 have P:=O (bY.new W 56 #[.int .u8 (kd:Int),.string (aG tx),.int .i64 nn,.slice (some ⟨kb,E,none⟩) Z kc,.int .i64 at_]);have L:=O ((Below.refl W.heap.size W).alloc (amL _) (.cells #[.int .u8 (kd:Int),.string (aG tx),.int .i64 nn,.slice (some ⟨kb,E,none⟩) Z kc,.int .i64 at_] 56))
 generalize W.alloc (.cells #[.int .u8 (kd:Int),.string (aG tx),.int .i64 nn,.slice (some ⟨kb,E,none⟩) Z kc,.int .i64 at_] 56)=w1 at P L ⊢
 have Y:=P.o.cell 3;have k:w1.cell? ⟨kb,E+j,none⟩=some (.int .i64 (q:Int)):=(L.o.cell (p:=⟨kb,_,none⟩) u).trans kq;clear k0 k1 k2 k3 k4 kq c0
 go_region_held3 (fun w'=>w'.cell? ⟨W.heap.size,3,none⟩=some (.slice (some ⟨kb,E,none⟩) Z kc)∧w'.cell? ⟨kb,E+j,none⟩=some (.int .i64 (q:Int)))
  (first | go_keep|(go_split_ands;refine⟨?_,?_⟩ <;> assumption))
  ((first
    | (go_at_call_of 120 (Value.int IntKind.i64 (i:Int))
       refine (HR.o _ (by (repeat (first|(with_reducible exact L.o)|(with_reducible refine Below.drew ?_)));done)).mono ?_;rintro e w3⟨rfl,f⟩;have F:=O (show Below w1.heap.size w1 w3 from Below.trans (by (repeat (first|(with_reducible exact Below.refl _ _)|(with_reducible refine Below.drew ?_)));done) f);have X:=O (L.o.trans (F.o.mono L.o.size));have t:=O (P.o.below F.o P.o.lt);clear f Y k;have Y:=t.o.cell 3;have k:w3.cell? ⟨kb,E+j,none⟩=some (.int .i64 (q:Int)):=(X.o.cell (p:=⟨kb,_,none⟩) u).trans V5.o)
    | (go_at_call_of 120 (Value.int IntKind.i64 (q:Int))
       refine (HS.o _ (by (repeat (first|(with_reducible exact X.o)|(with_reducible refine Below.drew ?_)));done)).mono ?_;rintro e w4⟨rfl,f⟩;have Cz:=O (show Below w3.heap.size w3 w4 from Below.trans (by (repeat (first|(with_reducible exact Below.refl _ _)|(with_reducible refine Below.drew ?_)));done) f);have EJ:=O (X.o.trans (Cz.o.mono X.o.size));have Ra:=O (t.o.below Cz.o t.o.lt);clear f Y k;have Y:=Ra.o.cell 3;have k:w4.cell? ⟨kb,E+j,none⟩=some (.int .i64 (q:Int)):=(EJ.o.cell (p:=⟨kb,_,none⟩) u).trans V5.o)))
 all_goals
  have n0:=Ra.o.cell 0;clear Y k;have a:=O (show zF kd j y.1.kind=oL kd j r1 r2 from by rw [M.o,N.o];rfl);have D:=O EJ.o;clear HR HS P L F X t Cz Ra V5 HQ HP M N hlw u y0 y1 y3 EJ;have H:(kd=5∨kd=4∨kd=22∨11≤kd∧kd≤16)∨kd=23∨(kd=6∨kd=7∨kd=8∨kd=9∨kd=10∨kd=17∨kd=18)∨(kd ≠ 5∧kd ≠ 4∧kd ≠ 22∧kd ≠ 23∧¬ (6≤kd∧kd≤18)):=by omega
  rcases H with l | l | l | l
  ·have hk2:kd=5∨kd=4∨kd=22∨kd=11∨kd=12∨kd=13∨kd=14∨kd=15∨kd=16:=by omega
   clear l;rcases hk2 with rfl | rfl | rfl | rfl | rfl | rfl | rfl | rfl | rfl
   all_goals
    go_wp2_with fail;go_ret
    refine⟨?_,D.o⟩
    rw [a.o];first | rfl|(simp [oL];done)|(simp [oL];omega)
  ·subst l;rcases Nat.eq_zero_or_pos j with d | d
   ·subst d;go_wp2_with fail;go_ret
    refine⟨?_,D.o⟩
    rw [a.o];first | rfl|(simp [oL];done)|(simp [oL];omega)
   ·have z:(0:Int) < (j:Int):=by omega
    go_wp2_with fail;go_ret
    refine⟨?_,D.o⟩
    rw [a.o];first | rfl|(simp [oL,d];done)|(simp [oL];omega)
  ·have tri:r1 < r2∨r2=r1∨r2 < r1:=by omega
   rcases tri with U | U | U
   ·have z1:(r1:Int) < (r2:Int):=by omega
    rcases l with rfl | rfl | rfl | rfl | rfl | rfl | rfl
    all_goals
     go_wp2_with fail;go_ret
     refine⟨?_,D.o⟩
     rw [a.o];first | rfl|(simp [oL,U];done)|(simp [oL];omega)
   ·subst U;rcases Nat.eq_zero_or_pos j with d | d
    ·subst d;rcases l with rfl | rfl | rfl | rfl | rfl | rfl | rfl
     all_goals
      go_wp2_with fail;go_ret
      refine⟨?_,D.o⟩
      rw [a.o];first | rfl|(simp [oL];done)|(simp [oL];omega)
    ·have z3:((j:Int) == 0)=false:=by simp;omega
     rcases l with rfl | rfl | rfl | rfl | rfl | rfl | rfl
     all_goals
      go_wp2_with fail;go_ret
      refine⟨?_,D.o⟩
      rw [a.o];first | rfl|(simp [oL,d];done)|(simp [oL];omega)
   ·have z1:¬ (r1:Int) < (r2:Int):=by omega
    have z2:¬ (r2:Int)=(r1:Int):=by omega
    have z3:((r2:Int) == (r1:Int))=false:=by simp;omega
    rcases l with rfl | rfl | rfl | rfl | rfl | rfl | rfl
    all_goals
     go_wp2_with fail;go_ret
     refine⟨?_,D.o⟩
     rw [a.o];first | rfl|(simp [oL,U];done)|(simp [oL];omega)
  ·obtain⟨h5,h4,h22,h23,hop⟩:=l;have b5:((kd:Int) == 5)=false:=by simp;omega
   have b4:((kd:Int) == 4)=false:=by simp;omega
   have b22:((kd:Int) == 22)=false:=by simp;omega
   have b23:((kd:Int) == 23)=false:=by simp;omega
   have b6:((kd:Int) == 6)=false:=by simp;omega
   have b7:((kd:Int) == 7)=false:=by simp;omega
   have b8:((kd:Int) == 8)=false:=by simp;omega
   have b9:((kd:Int) == 9)=false:=by simp;omega
   have b10:((kd:Int) == 10)=false:=by simp;omega
   have b17:((kd:Int) == 17)=false:=by simp;omega
   have b18:((kd:Int) == 18)=false:=by simp;omega
   have b11:((kd:Int) == 11)=false:=by simp;omega
   have b12:((kd:Int) == 12)=false:=by simp;omega
   have b13:((kd:Int) == 13)=false:=by simp;omega
   have b14:((kd:Int) == 14)=false:=by simp;omega
   have b15:((kd:Int) == 15)=false:=by simp;omega
   have b16:((kd:Int) == 16)=false:=by simp;omega
   have ai':=O (show oL kd j r1 r2=true from by unfold oL;rw [if_neg (by omega),if_neg h23,if_neg (by omega),if_neg (by omega)]);clear h5 h4 h22 h23 hop;go_wp2_with fail;go_ret
   refine⟨?_,D.o⟩
   rw [a.o,ai'.o];rfl
end
end
end Go.Proofs.YtalghggmkojblaaGreatDoor
namespace Mist
section
variable {T:Tr} {B:Nat→List Pz} {i:Nat}
theorem wM (h:(nd T i).kind=1):bQ T B i=nG (nd T i).n (i:Int):=by
 unfold bQ;simp only;(repeat rw [if_neg (by omega)]);rw [if_pos (by omega)]
theorem E8 (h:(nd T i).kind=2):bQ T B i=[tz (if (nd T i).n=1 then [116,114,117,101] else [102,97,108,115,101]) (i:Int)]:=by
 unfold bQ;simp only;(repeat rw [if_neg (by omega)]);rw [if_pos (by omega)]
theorem E9 (h:(nd T i).kind=3):bQ T B i=[tz (nd T i).text (i:Int)]:=by
 unfold bQ;simp only;(repeat rw [if_neg (by omega)]);rw [if_pos (by omega)]
theorem Bo (h:(nd T i).kind=32):bQ T B i=[tz (nd T i).text (i:Int)]:=by
 unfold bQ;simp only;(repeat rw [if_neg (by omega)]);rw [if_pos (by omega)]
theorem E_ (h:(nd T i).kind=4):bQ T B i=tz [45] (i:Int) :: cZ (decide (((dU T B i 0).headD default).text=[45])) (dU T B i 0):=by
 unfold bQ;simp only;(repeat rw [if_neg (by omega)]);rw [if_pos (by omega)]
theorem Fa (h:(nd T i).kind=5):bQ T B i=tz [110,111,116] (i:Int) :: cZ true (dU T B i 0):=by
 unfold bQ;simp only;(repeat rw [if_neg (by omega)]);rw [if_pos (by omega)]
theorem AV (h:(nd T i).kind=19):bQ T B i=tz [105,102] (i:Int) :: (cZ true (dU T B i 0) ++ lz [116,104,101,110] (-1) :: (cZ true (dU T B i 1) ++ lz [101,108,115,101] (-1) :: cZ true (dU T B i 2))):=by
 unfold bQ;simp only;(repeat rw [if_neg (by omega)]);rw [if_pos (by omega)]
theorem AX (h:(nd T i).kind=20):bQ T B i=tz [108,101,116] (i:Int) :: lz (nd T i).text (-1) :: lz [61] (-1) :: (cZ true (dU T B i 0) ++ lz [105,110] (-1) :: cZ true (dU T B i 1)):=by
 unfold bQ;simp only;(repeat rw [if_neg (by omega)]);rw [if_pos (by omega)]
theorem AY (h:(nd T i).kind=21):bQ T B i=tz (nd T i).text (i:Int) :: tz [40] (-1) :: (cZ false (ig T B i (nd T i).kids.length) ++ [tz [41] (-1)]):=by
 unfold bQ;simp only;(repeat rw [if_neg (by omega)]);rw [if_pos (by omega)]
theorem AZ (h:(nd T i).kind=22):bQ T B i=dU T B i 0 ++ [tz [46] (i:Int),tz (nd T i).text (-1)]:=by
 unfold bQ;simp only;(repeat rw [if_neg (by omega)]);rw [if_pos (by omega)]
theorem A_ (h:(nd T i).kind=23):bQ T B i=dU T B i 0 ++ tz [91] (i:Int) :: (cZ false (dU T B i 1) ++ [tz [93] (-1)]):=by
 unfold bQ;simp only;(repeat rw [if_neg (by omega)]);rw [if_pos (by omega)]
theorem Bb (h:(nd T i).kind=24):bQ T B i=tz (nd T i).text (i:Int) :: tz [123] (-1) :: (cZ false (ig T B i (nd T i).kids.length) ++ [tz [125] (-1)]):=by
 unfold bQ;simp only;(repeat rw [if_neg (by omega)]);rw [if_pos (by omega)]
theorem Bf (h:(nd T i).kind=25):bQ T B i=tz (nd T i).text (i:Int) :: tz [58] (-1) :: cZ true (dU T B i 0):=by
 unfold bQ;simp only;(repeat rw [if_neg (by omega)]);rw [if_pos (by omega)]
theorem Bt (h:(nd T i).kind=34):bQ T B i=tz (nd T i).text (i:Int) :: tz [58] (-1) :: cZ true (dU T B i 0):=by
 unfold bQ;simp only;(repeat rw [if_neg (by omega)]);rw [if_pos (by omega)]
theorem Bg (h:(nd T i).kind=26):bQ T B i=tz [91] (i:Int) :: (cZ false (ig T B i (nd T i).kids.length) ++ [tz [93] (-1)]):=by
 unfold bQ;simp only;(repeat rw [if_neg (by omega)]);rw [if_pos (by omega)]
theorem Bh (h:(nd T i).kind=30):bQ T B i=[tz [105,110,116] (i:Int)]:=by
 unfold bQ;simp only;(repeat rw [if_neg (by omega)]);rw [if_pos (by omega)]
theorem Bl (h:(nd T i).kind=31):bQ T B i=[tz [98,111,111,108] (i:Int)]:=by
 unfold bQ;simp only;(repeat rw [if_neg (by omega)]);rw [if_pos (by omega)]
theorem Br (h:(nd T i).kind=33):bQ T B i=tz [91] (i:Int) :: (cZ false (dU T B i 0) ++ tz [59] (-1) :: lz (Go.Lib.itoa (nd T i).n) (-1) :: [tz [93] (-1)]):=by
 unfold bQ;simp only;(repeat rw [if_neg (by omega)]);rw [if_pos (by omega)]
theorem Bu (h:(nd T i).kind=40):bQ T B i=tz [99,104,111,111,115,101] (i:Int) :: lz (nd T i).text (-1) :: tz [58] (-1) :: (cZ true (dU T B i 0) ++ tz [46,46] (-1) :: (cZ false (dU T B i 1) ++ [tz [59] (-1)])):=by
 unfold bQ;simp only;(repeat rw [if_neg (by omega)]);rw [if_pos (by omega)]
theorem Bw (h:(nd T i).kind=41):bQ T B i=tz [116,121,112,101] (i:Int) :: lz (nd T i).text (-1) :: lz [61] (-1) :: lz [123] (-1) :: (cZ false (ig T B i (nd T i).kids.length) ++ [tz [125] (-1),tz [59] (-1)]):=by
 unfold bQ;simp only;(repeat rw [if_neg (by omega)]);rw [if_pos (by omega)]
theorem Bz (h:(nd T i).kind=42):bQ T B i=tz [102,117,110] (i:Int) :: lz (nd T i).text (-1) :: tz [40] (-1) :: (cZ false (ig T B i ((nd T i).kids.length - 2)) ++ tz [41] (-1) :: tz [58] (-1) :: (cZ true (dU T B i ((nd T i).kids.length - 2)) ++ ((if 0 < (nd T i).n then [lz [117,112,116,111] (-1),lz (Go.Lib.itoa (nd T i).n) (-1)] else []) ++ lz [61] (-1) :: (cZ true (dU T B i ((nd T i).kids.length - 1)) ++ [tz [59] (-1)])))):=by
 unfold bQ;simp only;(repeat rw [if_neg (by omega)]);rw [if_pos (by omega)]
theorem BA (h:(nd T i).kind=43):bQ T B i=tz [108,101,116] (i:Int) :: lz (nd T i).text (-1) :: lz [61] (-1) :: (cZ true (dU T B i 0) ++ [tz [59] (-1)]):=by
 unfold bQ;simp only;(repeat rw [if_neg (by omega)]);rw [if_pos (by omega)]
theorem BD (h:(nd T i).kind=44):bQ T B i=tz [111,98,115,101,114,118,101] (i:Int) :: lz (nd T i).text (-1) :: tz [58] (-1) :: (cZ true (dU T B i 0) ++ [tz [59] (-1)]):=by
 unfold bQ;simp only;(repeat rw [if_neg (by omega)]);rw [if_pos (by omega)]
theorem BF (h:(nd T i).kind=45):bQ T B i=[tz [114,101,116,114,97,99,116] (i:Int),lz (nd T i).text (-1),tz [59] (-1)]:=by
 unfold bQ;simp only;(repeat rw [if_neg (by omega)]);rw [if_pos (by omega)]
theorem BG (h:(nd T i).kind=46):bQ T B i=tz [97,115,107] (i:Int) :: lz (lJ.getD (nd T i).n.toNat []) (-1) :: (cZ true (ig T B i (nd T i).kids.length) ++ [tz [59] (-1)]):=by
 unfold bQ;simp only;(repeat rw [if_neg (by omega)]);rw [if_pos (by omega)]
theorem BH (h:(nd T i).kind=0∨6≤(nd T i).kind∧(nd T i).kind≤18∨27≤(nd T i).kind∧(nd T i).kind≤29∨35≤(nd T i).kind∧(nd T i).kind≤39∨47≤(nd T i).kind):bQ T B i=dU T B i 0 ++ lz (Ej (nd T i).kind) (i:Int) :: cZ true (dU T B i 1):=by
 unfold bQ;simp only;(repeat rw [if_neg (by omega)])
theorem abU (T:Tr)(B:Nat→List Pz)(i:Nat):bQ T B i ≠ []:=by
 have a:(nd T i).kind=1∨(nd T i).kind=2∨(nd T i).kind=3∨(nd T i).kind=32∨(nd T i).kind=4∨(nd T i).kind=5∨(nd T i).kind=19∨(nd T i).kind=20∨(nd T i).kind=21∨(nd T i).kind=22∨(nd T i).kind=23∨(nd T i).kind=24∨(nd T i).kind=25∨(nd T i).kind=34∨(nd T i).kind=26∨(nd T i).kind=30∨(nd T i).kind=31∨(nd T i).kind=33∨(nd T i).kind=40∨(nd T i).kind=41∨(nd T i).kind=42∨(nd T i).kind=43∨(nd T i).kind=44∨(nd T i).kind=45∨(nd T i).kind=46∨((nd T i).kind=0∨6≤(nd T i).kind∧(nd T i).kind≤18∨27≤(nd T i).kind∧(nd T i).kind≤29∨35≤(nd T i).kind∧(nd T i).kind≤39∨47≤(nd T i).kind):=by omega
 rcases a with h | h | h | h | h | h | h | h | h | h | h | h | h | h | h | h | h | h | h | h | h | h | h | h | h | h
 ·rw [wM h];unfold nG;split <;> simp
 ·rw [E8 h];simp
 ·rw [E9 h];simp
 ·rw [Bo h];simp
 ·rw [E_ h];simp
 ·rw [Fa h];simp
 ·rw [AV h];simp
 ·rw [AX h];simp
 ·rw [AY h];simp
 ·rw [AZ h];simp
 ·rw [A_ h];simp
 ·rw [Bb h];simp
 ·rw [Bf h];simp
 ·rw [Bt h];simp
 ·rw [Bg h];simp
 ·rw [Bh h];simp
 ·rw [Bl h];simp
 ·rw [Br h];simp
 ·rw [Bu h];simp
 ·rw [Bw h];simp
 ·rw [Bz h];simp
 ·rw [BA h];simp
 ·rw [BD h];simp
 ·rw [BF h];simp
 ·rw [BG h];simp
 ·rw [BH h];simp
theorem Ny (T:Tr){f i:Nat}(h:i < f):aQ T f i ≠ []:=by
 cases f with
 | zero=>omega
 | succ f=>exact abU T _ i
end
end Mist
