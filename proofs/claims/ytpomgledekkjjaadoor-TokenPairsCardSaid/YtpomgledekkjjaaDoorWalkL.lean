/-
  WALKS, twelfth part: strings.Builder, alone or as the first field of another struct.
-/
import Derived.Test.YtpomgledekkjjaaDoorWalkK
import Derived.Lib.Builder
import Derived.Lib.AppendStr
import Derived.Lib.UnsafeStr
import Derived.Laws.Externs
namespace Go.Proofs.YtpomgledekkjjaaDoor
open Go.RowKit Mist
attribute [local go_sem] ofL_extract ofL_size ofL_get ofL_bytes ofL_append
/-- A block of type T may begin with a Builder. -/
structure BldType (T n : Nat) : Prop where
  lies : liesAt Tryd.prog Tryd.prog.depth T (n / Tryd.prog.cellsOf T) 0 56 1 = true
  ne : T ≠ 5
/-- A builder at the head of a block of the call's own: what it holds, and what lies behind it. -/
def BldP (T B g : Nat) (p : Value) (rest : List Value) (bs : Bs) (w : World) : Prop :=
  B ≤ g ∧ ∃ v, w.heap[g]? = some (.cells (p :: v :: rest).toArray T (0, 0)) ∧ w.ownsRow B 5 1 v bs.length (Lib.byteCells bs) ∧ v.ownBlock ≠ some g
def Bld (T B g : Nat) (rest : List Value) (bs : Bs) (w : World) : Prop :=
  BldP T B g (.pointer none) rest bs w ∨ BldP T B g (.pointer (some ⟨g, 0, none⟩)) rest bs w
theorem builder_size : (Tryd.prog.info? 56).map (·.size) = some 2 := by kernel_rfl
theorem byte_info : (Tryd.prog.info? 5).map (fun i => (i.zero, i.size, i.bytes)) = some (some (.int .u8 0), 1, 1) := by kernel_rfl
theorem cells_byte : Tryd.prog.cellsOf 5 = 1 := by kernel_rfl
theorem Bld.any {T B g : Nat} {rest : List Value} {bs : Bs} {w : World} (h : Bld T B g rest bs w) : ∃ p, BldP T B g p rest bs w := by
  rcases h with h | h
  · exact ⟨_, h⟩
  · exact ⟨_, h⟩
theorem BldP.lt {T B g : Nat} {p : Value} {rest : List Value} {bs : Bs} {w : World} (h : BldP T B g p rest bs w) : g < w.heap.size := by
  obtain ⟨_, v, hb, _⟩ := h
  rcases Nat.lt_or_ge g w.heap.size with h' | h'
  · exact h'
  · simp [Array.getElem?_eq_none h'] at hb
theorem BldP.used {T B g : Nat} {p : Value} {rest : List Value} {bs : Bs} {w : World} (h : BldP T B g p rest bs w) (q : Value) : BldP T B g q rest bs (w.setCell ⟨g, 0, none⟩ q) := by
  obtain ⟨hB, v, hb, hown, hne⟩ := h
  refine ⟨hB, v, ?_, ?_, hne⟩
  · simp [World.setCell, Array.getElem?_modify, hb]
  · refine hown.kept (row := some g) ⟨rfl, rfl, rfl, by simp [World.setCell], fun k _ hk => Below.heap_setCell _ _ _ _ (fun e => hk (by simp [e]))⟩ ?_
    exact Or.inr hne
theorem BldP.put {T B g : Nat} {p v v' : Value} {rest : List Value} {bs' : Bs} {w : World} (hB : B ≤ g) (hb : w.heap[g]? = some (.cells (p :: v :: rest).toArray T (0, 0))) (hown : w.ownsRow B 5 1 v' bs'.length (Lib.byteCells bs')) (hTe : T ≠ 5) :
    BldP T B g p rest bs' (w.setCell ⟨g, 1, none⟩ v') := by
  have hne := Lib.ownBlock_ne hown hb hTe
  refine ⟨hB, v', ?_, ?_, hne⟩
  · simp [World.setCell, Array.getElem?_modify, hb]
  · exact hown.kept (row := some g) ⟨rfl, rfl, rfl, by simp [World.setCell], fun k _ hk => Below.heap_setCell _ _ _ _ (fun e => hk (by simp [e]))⟩ (Or.inr hne)
/-- Behind work that keeps everything that was there. -/
theorem BldP.below {T B g : Nat} {p : Value} {rest : List Value} {bs : Bs} {w w' : World} (h : BldP T B g p rest bs w) (hb : Below w.heap.size w w') : BldP T B g p rest bs w' := by
  have hlt := h.lt
  obtain ⟨hB, v, hbk, hown, hne⟩ := h
  exact ⟨hB, v, (hb.block g hlt).trans hbk, own_below hown hb, hne⟩
theorem Bld.below {T B g : Nat} {rest : List Value} {bs : Bs} {w w' : World} (h : Bld T B g rest bs w) (hb : Below w.heap.size w w') : Bld T B g rest bs w' := by
  rcases h with h | h
  · exact .inl (h.below hb)
  · exact .inr (h.below hb)
theorem Bld.lt {T B g : Nat} {rest : List Value} {bs : Bs} {w : World} (h : Bld T B g rest bs w) : g < w.heap.size := by
  obtain ⟨p, h⟩ := h.any; exact h.lt
theorem Bld.fresh (T : Nat) (rest : List Value) (w : World) : Bld T w.heap.size w.heap.size rest [] (w.alloc (.cells (.pointer none :: .slice none 0 0 :: rest).toArray T)) :=
  Or.inl ⟨Nat.le_refl _, .slice none 0 0, heap_alloc_new w _, World.ownsRow_nil _ _ _ _, by simp [Value.ownBlock]⟩
/-- Whatever is neither the builder's block nor bytes stays. -/
structure Spare (g : Nat) (w w' : World) : Prop where
  size : w.heap.size ≤ w'.heap.size
  block : ∀ k, k < w.heap.size → k ≠ g → (∀ cs fr, w.heap[k]? ≠ some (.cells cs 5 fr)) → w'.heap[k]? = w.heap[k]?
theorem Spare.refl (g : Nat) (w : World) : Spare g w w := ⟨Nat.le_refl _, fun _ _ _ _ => rfl⟩
theorem Spare.trans {g : Nat} {a b c : World} (h : Spare g a b) (k : Spare g b c) : Spare g a c :=
  ⟨Nat.le_trans h.size k.size, fun i hi hg hn => (k.block i (Nat.lt_of_lt_of_le hi h.size) hg (fun cs fr e => hn cs fr ((h.block i hi hg hn).symm.trans e))).trans (h.block i hi hg hn)⟩
theorem Spare.of_below {g : Nat} {w w' : World} (h : Below w.heap.size w w') : Spare g w w' := ⟨h.size, fun k hk _ _ => h.block k hk⟩
theorem Spare.set {g : Nat} {a w : World} (h : Spare g a w) (o : Nat) (u : Value) : Spare g a (w.setCell ⟨g, o, none⟩ u) :=
  h.trans ⟨by simp [World.setCell], fun k _ hg _ => Below.heap_setCell _ _ _ _ hg⟩
theorem Spare.cell {g k : Nat} {cs : Array Value} {T : TypeId} {fr : Nat × Nat} {w w' : World} (h : Spare g w w') (hk : w.heap[k]? = some (.cells cs T fr)) (hg : k ≠ g) (hT : T ≠ 5) : w'.heap[k]? = some (.cells cs T fr) := by
  rw [h.block k (Array.getElem?_eq_some_iff.1 hk).1 hg, hk]
  intro cs' fr' e
  rw [hk] at e
  simp only [Option.some.injEq, Obj.cells.injEq] at e
  exact hT e.2.1
set_option maxRecDepth 100000 in
set_option maxHeartbeats 1000000 in
theorem copyCheck_used (g : Nat) (w : World) (h0 : w.cell? ⟨g, 0, none⟩ = some (.pointer (some ⟨g, 0, none⟩))) :
    Calls Tryd.prog 40 #[.pointer (some ⟨g, 0, none⟩)] w fun e w' => e = .returned (.tuple #[]) ∧ w = w' := by
  obtain ⟨j, hj, _⟩ := Option.map_eq_some_iff.1 builder_size
  go_enter Tryd.func40, Tryd.ntmps40
  go_wp2
  rw [Lib.run_neq_ptr_same w _ Tryd.underlying54 hj]
  go_wp2
  go_end0
  exact ⟨rfl, rfl⟩
set_option maxRecDepth 100000 in
set_option maxHeartbeats 1000000 in
theorem copyCheck_fresh (T n g : Nat) (hT : BldType T n) (w : World) (h0 : w.cell? ⟨g, 0, none⟩ = some (.pointer none)) (hsh : w.shape? g = some (T, n)) (hn : 0 < n) (hfz : w.frozen? ⟨g, 0, none⟩ = false) :
    Calls Tryd.prog 40 #[.pointer (some ⟨g, 0, none⟩)] w fun e w' => e = .returned (.tuple #[]) ∧ w.setCell ⟨g, 0, none⟩ (.pointer (some ⟨g, 0, none⟩)) = w' := by
  obtain ⟨j, hj, hjs⟩ := Option.map_eq_some_iff.1 builder_size
  go_enter Tryd.func40, Tryd.ntmps40
  go_wp2
  rw [Lib.run_to_unsafe w ⟨g, 0, none⟩ Tryd.underlying54 Tryd.underlying83 hj (by rw [hjs]; decide) hsh hn]
  simp only [Result.andThen]
  rw [Oper.upon_value]
  go_wp2
  rw [run_callFunc_extern Tryd.func46 (by kernel_rfl) (by kernel_rfl) (by kernel_rfl) (e := Extern.AbiNoEscape.same) (by kernel_rfl)]
  rw [Lib.run_noEscape]
  simp only [Result.andThen]
  rw [Oper.upon_value]
  go_wp2
  rw [Lib.run_from_unsafe w ⟨g, 0, none⟩ Tryd.underlying83 Tryd.underlying54 hj hsh hT.lies]
  simp only [Result.andThen]
  rw [Oper.upon_value]
  go_wp2
  go_end0
  exact ⟨rfl, rfl⟩
theorem copyCheck_any (T n B g : Nat) (hT : BldType T n) (rest : List Value) (bs : Bs) (w : World) (h : Bld T B g rest bs w) (hn : n = rest.length + 2) :
    Calls Tryd.prog 40 #[.pointer (some ⟨g, 0, none⟩)] w fun e w' => e = .returned (.tuple #[]) ∧ BldP T B g (.pointer (some ⟨g, 0, none⟩)) rest bs w' ∧ Below B w w' ∧ Spare g w w' := by
  rcases h with h | h
  · obtain ⟨hB, v, hb, _⟩ := id h
    refine (copyCheck_fresh T n g hT w (by rw [Lib.cell_of_heap hb]; rfl) (by simp [World.shape?, hb, hn]) (by omega) (Lib.frozen_of_heap hb 0)).mono ?_
    rintro e w' ⟨rfl, rfl⟩
    exact ⟨rfl, h.used _, (Below.refl _ _).setCell (p := ⟨g, 0, none⟩) hB _, (Spare.refl _ _).set _ _⟩
  · obtain ⟨hB, v, hb, _⟩ := id h
    refine (copyCheck_used g w (by rw [Lib.cell_of_heap hb]; rfl)).mono ?_
    rintro e w' ⟨rfl, rfl⟩
    exact ⟨rfl, h, Below.refl _ _, Spare.refl _ _⟩
end Go.Proofs.YtpomgledekkjjaaDoor
