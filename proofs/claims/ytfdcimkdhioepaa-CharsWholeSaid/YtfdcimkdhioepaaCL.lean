/-
  WALKS of chapter 1: strings.Builder: copyCheck, WriteString, WriteByte, String.
-/
import Derived.Test.YtfdcimkdhioepaaCG
import Derived.Test.YtfdcimkdhioepaaShelf
import Derived.Lib.Builder
import Derived.Lib.AppendStr
import Derived.Lib.UnsafeStr
import Derived.Laws.Externs
import Derived.OwnWalk
import Derived.Laws.Pointers
import Derived.StillTactics
namespace Go.Proofs.Ytfdcimkdhioepaa
open Go.RowKit Mist
attribute [local go_sem] ofL_extract ofL_size ofL_get ofL_bytes ofL_append
theorem own_form {w : World} {base e size n : Nat} {v : Value} {xs : List Value} (h : w.ownsRow base e size v n xs) : ∃ A c, v = .slice A n c := by
  rcases h.2 with ⟨hv, h0⟩ | ⟨g, cap, cur, hv, _⟩
  · exact ⟨none, 0, by rw [hv, h0]⟩
  · exact ⟨_, _, hv⟩
theorem own_below {w w' : World} {base e size n : Nat} {v : Value} {xs : List Value} (h : w.ownsRow base e size v n xs) (hb : Below w.heap.size w w') : w'.ownsRow base e size v n xs := by
  refine ⟨h.1, ?_⟩
  rcases h.2 with h2 | ⟨g, cap, cur, hv, hg, hh, r⟩
  · exact .inl h2
  · have hlt : g < w.heap.size := by
      rcases Nat.lt_or_ge g w.heap.size with h' | h'
      · exact h'
      · rw [Array.getElem?_eq_none h'] at hh; cases hh
    exact .inr ⟨g, cap, cur, hv, hg, (hb.block g hlt).trans hh, r⟩
/-- A block of type T may begin with a Builder. -/
structure BldType (T n : Nat) : Prop where
  lies : liesAt Try.prog Try.prog.depth T (n / Try.prog.cellsOf T) 0 74 1 = true
  ne : T ≠ 5
/-- A builder at the head of a block of the call's own: what it holds, and what lies behind it. -/
def BldP (T B g : Nat) (p : Value) (rest : List Value) (bs : Bs) (w : World) : Prop :=
  B ≤ g ∧ ∃ v, w.heap[g]? = some (.cells (p :: v :: rest).toArray T (0, 0)) ∧ w.ownsRow B 5 1 v bs.length (Lib.byteCells bs) ∧ v.ownBlock ≠ some g
def Bld (T B g : Nat) (rest : List Value) (bs : Bs) (w : World) : Prop :=
  BldP T B g (.pointer none) rest bs w ∨ BldP T B g (.pointer (some ⟨g, 0, none⟩)) rest bs w
theorem builder_size : (Try.prog.info? 74).map (·.size) = some 2 := by kernel_rfl
theorem byte_info : (Try.prog.info? 5).map (fun i => (i.zero, i.size, i.bytes)) = some (some (.int .u8 0), 1, 1) := by kernel_rfl
theorem cells_byte : Try.prog.cellsOf 5 = 1 := by kernel_rfl
theorem Bld.any {T B g : Nat} {rest : List Value} {bs : Bs} {w : World} (h : Bld T B g rest bs w) : ∃ p, BldP T B g p rest bs w := by
  rcases h with h | h
  · exact ⟨_, h⟩
  · exact ⟨_, h⟩
theorem BldP.lt {T B g : Nat} {p : Value} {rest : List Value} {bs : Bs} {w : World} (h : BldP T B g p rest bs w) : g < w.heap.size := by
  obtain ⟨_, v, hb, _⟩ := h
  rcases Nat.lt_or_ge g w.heap.size with h' | h'
  · exact h'
  · simp [Array.getElem?_eq_none h'] at hb
theorem BldP.used {T B g : Nat} {p : Value} {rest : List Value} {bs : Bs} {w : World} (h : BldP T B g p rest bs w) (q : Value) : BldP T B g q rest bs (w.setCell ⟨g, 0, none⟩ q) := by
  obtain ⟨hB, v, hb, hown, hne⟩ := h
  refine ⟨hB, v, ?_, ?_, hne⟩
  · simp [World.setCell, Array.getElem?_modify, hb]
  · refine hown.kept (row := some g) ⟨rfl, rfl, rfl, by simp [World.setCell], fun k _ hk => Below.heap_setCell _ _ _ _ (fun e => hk (by simp [e]))⟩ ?_
    exact Or.inr hne
theorem BldP.put {T B g : Nat} {p v v' : Value} {rest : List Value} {bs' : Bs} {w : World} (hB : B ≤ g) (hb : w.heap[g]? = some (.cells (p :: v :: rest).toArray T (0, 0))) (hown : w.ownsRow B 5 1 v' bs'.length (Lib.byteCells bs')) (hTe : T ≠ 5) :
    BldP T B g p rest bs' (w.setCell ⟨g, 1, none⟩ v') := by
  have hne := Lib.ownBlock_ne hown hb hTe
  refine ⟨hB, v', ?_, ?_, hne⟩
  · simp [World.setCell, Array.getElem?_modify, hb]
  · exact hown.kept (row := some g) ⟨rfl, rfl, rfl, by simp [World.setCell], fun k _ hk => Below.heap_setCell _ _ _ _ (fun e => hk (by simp [e]))⟩ (Or.inr hne)
/-- Behind work that keeps everything that was there. -/
theorem BldP.below {T B g : Nat} {p : Value} {rest : List Value} {bs : Bs} {w w' : World} (h : BldP T B g p rest bs w) (hb : Below w.heap.size w w') : BldP T B g p rest bs w' := by
  have hlt := h.lt
  obtain ⟨hB, v, hbk, hown, hne⟩ := h
  exact ⟨hB, v, (hb.block g hlt).trans hbk, own_below hown hb, hne⟩
theorem Bld.below {T B g : Nat} {rest : List Value} {bs : Bs} {w w' : World} (h : Bld T B g rest bs w) (hb : Below w.heap.size w w') : Bld T B g rest bs w' := by
  rcases h with h | h
  · exact .inl (h.below hb)
  · exact .inr (h.below hb)
theorem Bld.lt {T B g : Nat} {rest : List Value} {bs : Bs} {w : World} (h : Bld T B g rest bs w) : g < w.heap.size := by
  obtain ⟨p, h⟩ := h.any; exact h.lt
theorem Bld.fresh (T : Nat) (rest : List Value) (w : World) : Bld T w.heap.size w.heap.size rest [] (w.alloc (.cells (.pointer none :: .slice none 0 0 :: rest).toArray T)) :=
  Or.inl ⟨Nat.le_refl _, .slice none 0 0, heap_alloc_new w _, World.ownsRow_nil _ _ _ _, by simp [Value.ownBlock]⟩
/-- Whatever is neither the builder's block nor bytes stays. -/
structure Spare (g : Nat) (w w' : World) : Prop where
  size : w.heap.size ≤ w'.heap.size
  block : ∀ k, k < w.heap.size → k ≠ g → (∀ cs fr, w.heap[k]? ≠ some (.cells cs 5 fr)) → w'.heap[k]? = w.heap[k]?
theorem Spare.refl (g : Nat) (w : World) : Spare g w w := ⟨Nat.le_refl _, fun _ _ _ _ => rfl⟩
theorem Spare.trans {g : Nat} {a b c : World} (h : Spare g a b) (k : Spare g b c) : Spare g a c :=
  ⟨Nat.le_trans h.size k.size, fun i hi hg hn => (k.block i (Nat.lt_of_lt_of_le hi h.size) hg (fun cs fr e => hn cs fr ((h.block i hi hg hn).symm.trans e))).trans (h.block i hi hg hn)⟩
theorem Spare.of_below {g : Nat} {w w' : World} (h : Below w.heap.size w w') : Spare g w w' := ⟨h.size, fun k hk _ _ => h.block k hk⟩
theorem Spare.set {g : Nat} {a w : World} (h : Spare g a w) (o : Nat) (u : Value) : Spare g a (w.setCell ⟨g, o, none⟩ u) :=
  h.trans ⟨by simp [World.setCell], fun k _ hg _ => Below.heap_setCell _ _ _ _ hg⟩
theorem Spare.cell {g k : Nat} {cs : Array Value} {T : TypeId} {fr : Nat × Nat} {w w' : World} (h : Spare g w w') (hk : w.heap[k]? = some (.cells cs T fr)) (hg : k ≠ g) (hT : T ≠ 5) : w'.heap[k]? = some (.cells cs T fr) := by
  rw [h.block k (Array.getElem?_eq_some_iff.1 hk).1 hg, hk]
  intro cs' fr' e
  rw [hk] at e
  simp only [Option.some.injEq, Obj.cells.injEq] at e
  exact hT e.2.1
set_option maxRecDepth 100000 in
set_option maxHeartbeats 1000000 in
theorem copyCheck_used (g : Nat) (w : World) (h0 : w.cell? ⟨g, 0, none⟩ = some (.pointer (some ⟨g, 0, none⟩))) :
    Calls Try.prog 65 #[.pointer (some ⟨g, 0, none⟩)] w fun e w' => e = .returned (.tuple #[]) ∧ w = w' := by
  obtain ⟨j, hj, _⟩ := Option.map_eq_some_iff.1 builder_size
  go_enter Try.func65, Try.ntmps65
  go_wp2
  rw [Lib.run_neq_ptr_same w _ Try.underlying72 hj]
  go_wp2
  go_end0
  exact ⟨rfl, rfl⟩
set_option maxRecDepth 100000 in
set_option maxHeartbeats 1000000 in
theorem copyCheck_fresh (T n g : Nat) (hT : BldType T n) (w : World) (h0 : w.cell? ⟨g, 0, none⟩ = some (.pointer none)) (hsh : w.shape? g = some (T, n)) (hn : 0 < n) (hfz : w.frozen? ⟨g, 0, none⟩ = false) :
    Calls Try.prog 65 #[.pointer (some ⟨g, 0, none⟩)] w fun e w' => e = .returned (.tuple #[]) ∧ w.setCell ⟨g, 0, none⟩ (.pointer (some ⟨g, 0, none⟩)) = w' := by
  obtain ⟨j, hj, hjs⟩ := Option.map_eq_some_iff.1 builder_size
  go_enter Try.func65, Try.ntmps65
  go_wp2
  rw [Lib.run_to_unsafe w ⟨g, 0, none⟩ Try.underlying72 Try.underlying101 hj (by rw [hjs]; decide) hsh hn]
  simp only [Result.andThen]
  rw [Oper.upon_value]
  go_wp2
  rw [run_callFunc_extern Try.func71 (by kernel_rfl) (by kernel_rfl) (by kernel_rfl) (e := Extern.AbiNoEscape.same) (by kernel_rfl)]
  rw [Lib.run_noEscape]
  simp only [Result.andThen]
  rw [Oper.upon_value]
  go_wp2
  rw [Lib.run_from_unsafe w ⟨g, 0, none⟩ Try.underlying101 Try.underlying72 hj hsh hT.lies]
  simp only [Result.andThen]
  rw [Oper.upon_value]
  go_wp2
  go_end0
  exact ⟨rfl, rfl⟩
theorem copyCheck_any (T n B g : Nat) (hT : BldType T n) (rest : List Value) (bs : Bs) (w : World) (h : Bld T B g rest bs w) (hn : n = rest.length + 2) :
    Calls Try.prog 65 #[.pointer (some ⟨g, 0, none⟩)] w fun e w' => e = .returned (.tuple #[]) ∧ BldP T B g (.pointer (some ⟨g, 0, none⟩)) rest bs w' ∧ Below B w w' ∧ Spare g w w' := by
  rcases h with h | h
  · obtain ⟨hB, v, hb, _⟩ := id h
    refine (copyCheck_fresh T n g hT w (by rw [Lib.cell_of_heap hb]; rfl) (by simp [World.shape?, hb, hn]) (by omega) (Lib.frozen_of_heap hb 0)).mono ?_
    rintro e w' ⟨rfl, rfl⟩
    exact ⟨rfl, h.used _, (Below.refl _ _).setCell (p := ⟨g, 0, none⟩) hB _, (Spare.refl _ _).set _ _⟩
  · obtain ⟨hB, v, hb, _⟩ := id h
    refine (copyCheck_used g w (by rw [Lib.cell_of_heap hb]; rfl)).mono ?_
    rintro e w' ⟨rfl, rfl⟩
    exact ⟨rfl, h, Below.refl _ _, Spare.refl _ _⟩
theorem strCells_ofL (s : Bs) : Lib.strCells (ofL s) = Lib.byteCells s := rfl
set_option maxRecDepth 100000 in
set_option maxHeartbeats 2000000 in
theorem writeString_any (T n B g : Nat) (hT : BldType T n) (rest : List Value) (bs s : Bs) (w : World) (h : Bld T B g rest bs w) (hn : n = rest.length + 2) (hlen : bs.length + s.length ≤ 1000000000) (hBw : B ≤ w.heap.size) :
    Calls Try.prog 50 #[.pointer (some ⟨g, 0, none⟩), .string (ofL s)] w fun e w' =>
      e = .returned (.tuple #[.int .i64 s.length, .nilIface]) ∧ Bld T B g rest (bs ++ s) w' ∧ Below B w w' ∧ Spare g w w' := by
  obtain ⟨i0, hi, hz0, hz1, hz2⟩ := info_parts byte_info
  go_enter Try.func50, Try.ntmps50
  go_wp2_with (go_at_call 65; refine (copyCheck_any T n B g hT rest bs _ h hn).mono ?_)
  rintro e w1 ⟨rfl, h1, hb1, hs1⟩
  have hlt := h1.lt
  obtain ⟨hB, v, hbk, hown, hne⟩ := h1
  have c0 : w1.cell? ⟨g, 0, none⟩ = some (.pointer (some ⟨g, 0, none⟩)) := by rw [Lib.cell_of_heap hbk]; rfl
  have c1 : w1.cell? ⟨g, 1, none⟩ = some v := by rw [Lib.cell_of_heap hbk]; rfl
  have HN := Lib.hid hn; clear hn
  go_wp2_with (at_builtin; refine Lib.wpList_append_own_string _ rfl _ _ 45 9 rfl B 5 i0 Try.underlying45 Try.underlying9 hi hz0 hz1 hz2 _ _ _ rfl hown (ofL s) rfl ?c3 ?c4 ?c5 ?_)
  case c3 => rw [ofL_size]; unfold maxLen; omega
  case c4 => rw [ofL_size]; omega
  case c5 => have := hb1.size; omega
  intro v' w2 hown' hgrow _
  have hb2 : w2.heap[g]? = some (.cells (.pointer (some ⟨g, 0, none⟩) :: v :: rest).toArray T (0, 0)) := by
    rw [hgrow.block g hlt (fun e => hne e.symm)]
    exact hbk
  have HB2 := Lib.hid hb2; clear hb2
  have d0 : w2.cell? ⟨g, 0, none⟩ = some (.pointer (some ⟨g, 0, none⟩)) := by rw [Lib.cell_of_heap HB2.out]; rfl
  have d1 : w2.cell? ⟨g, 1, none⟩ = some v := by rw [Lib.cell_of_heap HB2.out]; rfl
  have f1 : w2.frozen? ⟨g, 1, none⟩ = false := Lib.frozen_of_heap HB2.out 1
  obtain ⟨ao, cap, rfl⟩ := own_form hown'
  clear c0 c1 hbk
  have HO := Lib.hid hown'; clear hown'
  have HO1 := Lib.hid hown; clear hown
  go_wp2
  go_ret2
  refine ⟨rfl, .inr ?_, ?_, ?_⟩
  · refine BldP.put hB HB2.out (bs' := bs ++ s) ?_ hT.ne
    have := HO.out
    rw [strCells_ofL, ← Lib.byteCells_append] at this
    rw [List.length_append]; exact this
  · exact (hb1.grown hgrow (by have := hb1.size; omega) (fun k hk => (HO1.out.lt k hk).1)).setCell (p := ⟨g, 1, none⟩) hB _
  · refine (hs1.trans ⟨hgrow.size, fun k hk _ hn => hgrow.block k hk (fun e => ?_)⟩).set 1 _
    rcases HO1.out.2 with ⟨hv, _⟩ | ⟨q, cap', cur, hv, _, hq, _⟩
    · rw [hv] at e; simp [Value.ownBlock] at e
    · rw [hv] at e; simp [Value.ownBlock] at e
      rw [e] at hn; exact hn _ _ hq
theorem spare_freeze {g k : Nat} {w : World} {cur : Array Value} {fr : Nat × Nat} (hk : w.heap[k]? = some (.cells cur 5 fr)) (n : Nat) : Spare g w (w.drew.freeze ⟨k, 0, none⟩ n) := by
  unfold World.freeze
  split
  · exact ⟨Nat.le_refl _, fun _ _ _ _ => rfl⟩
  · refine ⟨by simp, fun i hi hg hn => ?_⟩
    simp only [Array.getElem?_modify]
    rw [if_neg (by intro e; exact hn cur fr (by rw [← hk]; exact congrArg (fun x => w.heap[x]?) e.symm))]
    rfl
theorem unsafeString_none (W : World) (q : Option Addr) : (Builtin.unsafeString_ #[97, 3] 9 #[.pointer q, .int .i64 0]).run Try.prog W = .ok (.string .empty) W :=
  Lib.run_unsafeString_none W _ _ _ q
set_option maxRecDepth 100000 in
set_option maxHeartbeats 2000000 in
theorem string_any (T B g : Nat) (rest : List Value) (bs : Bs) (w : World) (h : Bld T B g rest bs w) (hBw : B ≤ w.heap.size) :
    Calls Try.prog 54 #[.pointer (some ⟨g, 0, none⟩)] w fun e w' => e = .returned (.string (ofL bs)) ∧ Below B w w' ∧ Spare g w w' := by
  have hgl := h.lt
  obtain ⟨p, hB, v, hbk, hown, hne⟩ := h.any
  clear h
  have HBK := Lib.hid hbk
  have hbk' : w.drew.heap[g]? = some (.cells (p :: v :: rest).toArray T (0, 0)) := hbk
  rcases hown.2 with ⟨rfl, h0⟩ | ⟨k, cap, cur, rfl, hkB, hk, hnc, hcm, hcs, htake⟩
  · have hbs : bs = [] := List.eq_nil_of_length_eq_zero h0
    subst hbs
    have hUS := unsafeString_none
    have c1 : w.drew.cell? ⟨g, 1, none⟩ = some (.slice none 0 0) := by rw [Lib.cell_of_heap hbk']; rfl
    have hSD : (Builtin.unsafeSliceData_ #[45] 97 #[.slice none 0 0]).run Try.prog w.drew = .ok (.pointer none) w.drew := rfl
    clear hbk hbk' hown
    go_enter Try.func54, Try.ntmps54
    go_wp2
    go_region
    all_goals (go_wp2; go_ret; exact ⟨rfl, Below.drew (Below.refl B w), ⟨Nat.le_refl _, fun _ _ _ _ => rfl⟩⟩)
  · by_cases h0 : bs = []
    · subst h0
      have hUS := unsafeString_none
      have c1 : w.drew.cell? ⟨g, 1, none⟩ = some (.slice (some ⟨k, 0, none⟩) 0 cap) := by rw [Lib.cell_of_heap hbk']; rfl
      by_cases hc0 : cap = 0
      · subst hc0
        have hSD : (Builtin.unsafeSliceData_ #[45] 97 #[.slice (some ⟨k, 0, none⟩) 0 0]).run Try.prog w.drew = .ok (.pointer (some ⟨w.drew.heap.size, 0, none⟩)) (w.drew.alloc (.view ⟨k, 0, none⟩ 5)) :=
          Lib.run_unsafeSliceData_zero w.drew _ _ 5 Try.underlying97 ⟨k, 0, none⟩ 0 (5, cur.size) (by have hg' : w.drew.heap[k]? = some (.cells cur 5 (0, 0)) := hk; simp [World.shape?, hg'])
        have c2 : (w.drew.alloc (.view ⟨k, 0, none⟩ 5)).cell? ⟨g, 1, none⟩ = some (.slice (some ⟨k, 0, none⟩) 0 0) := by
          have : (w.drew.alloc (.view ⟨k, 0, none⟩ 5)).heap[g]? = _ := (Lib.alloc_old w.drew _ g hgl).trans hbk'
          rw [Lib.cell_of_heap this]; rfl
        have c3 : (w.alloc (.view ⟨k, 0, none⟩ 5)).drew.cell? ⟨g, 1, none⟩ = some (.slice (some ⟨k, 0, none⟩) 0 0) := c2
        have c4 : w.cell? ⟨g, 1, none⟩ = some (.slice (some ⟨k, 0, none⟩) 0 0) := c1
        clear hbk hbk' hown hk
        go_enter Try.func54, Try.ntmps54
        go_wp2
        go_region
        all_goals (go_wp2; go_ret; exact ⟨rfl, (Below.drew (Below.refl B w)).alloc hBw _, Spare.of_below ((Below.drew (Below.refl _ w)).alloc (Nat.le_refl _) _)⟩)
      · have hSD : (Builtin.unsafeSliceData_ #[45] 97 #[.slice (some ⟨k, 0, none⟩) 0 cap]).run Try.prog w.drew = .ok (.pointer (some ⟨k, 0, none⟩)) w.drew :=
          Lib.run_unsafeSliceData_row _ _ _ _ _ _ hc0
        clear hbk hbk' hown hk hc0 hcs htake hnc
        go_enter Try.func54, Try.ntmps54
        go_wp2
        go_region
        all_goals (go_wp2; go_ret; exact ⟨rfl, Below.drew (Below.refl B w), ⟨Nat.le_refl _, fun _ _ _ _ => rfl⟩⟩)
    · have hl0 : bs.length ≠ 0 := by simpa using h0
      have c1 : w.drew.cell? ⟨g, 1, none⟩ = some (.slice (some ⟨k, 0, none⟩) bs.length cap) := by rw [Lib.cell_of_heap hbk']; rfl
      have hSD : (Builtin.unsafeSliceData_ #[45] 97 #[.slice (some ⟨k, 0, none⟩) bs.length cap]).run Try.prog w.drew = .ok (.pointer (some ⟨k, 0, none⟩)) w.drew :=
        Lib.run_unsafeSliceData_row _ _ _ _ _ _ (by omega)
      have hUS : (Builtin.unsafeString_ #[97, 3] 9 #[.pointer (some ⟨k, 0, none⟩), .int .i64 bs.length]).run Try.prog w.drew = .ok (.string ⟨bs.toArray⟩) (w.drew.freeze ⟨k, 0, none⟩ bs.length) := by
        refine Lib.run_unsafeString_row w.drew _ _ _ 5 Try.underlying97 cells_byte k cur.size (by have hg' : w.drew.heap[k]? = some (.cells cur 5 (0, 0)) := hk; simp [World.shape?, hg']) bs h0 (by omega) (by unfold maxLen at hcm; omega) ?_
        intro j x hx
        have := hown.cells (g := k) rfl j (.int .u8 x.toNat) (by simp [Lib.byteCells, hx])
        exact this
      have HK := Lib.hid hk
      clear hbk hbk' hown hk hcs htake hnc
      go_enter Try.func54, Try.ntmps54
      go_wp2
      go_region
      all_goals (go_wp2; go_ret; exact ⟨rfl, Lib.below_freeze (Below.drew (Below.refl B w)) (p := ⟨k, 0, none⟩) hkB _, spare_freeze HK.out _⟩)
end Go.Proofs.Ytfdcimkdhioepaa
