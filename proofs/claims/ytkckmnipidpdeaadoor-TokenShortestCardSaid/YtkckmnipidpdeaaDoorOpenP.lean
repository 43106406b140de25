/-
  OPENING the arguments that are bytes: pairs of them, and slices of pairs.
-/
import Derived.Test.YtkckmnipidpdeaaDoorRow
import Derived.Test.YtkckmnipidpdeaaDoorWalkM4
import Derived.Deep.Slices
import Derived.SizedLaws
import Derived.ChangeOld
namespace Go.Proofs.YtkckmnipidpdeaaDoor
open Go.ChangeShapes Go.WideShapes Go.ChangeAt Go.RowKit Go.MapKept Go.ChangeMaps Mist
set_option maxRecDepth 100000
theorem pu8_row : Tryd.prog.underlying 5 = some (.int .u8) := by kernel_rfl
theorem pair_row : Tryd.prog.underlying 54 = some (.array 2 5) := by kernel_rfl
theorem pcells_u8 : Tryd.prog.cellsOf 5 = 1 := by kernel_rfl
theorem pcells_pair : Tryd.prog.cellsOf 54 = 2 := by kernel_rfl
theorem okWide_array {P : Program} {w : World} {r : Reach} {base : Nat} {t e : TypeId} {n : Nat} {v : Value} (ht : P.underlying t = some (.array n e)) (h : Value.okWide P w r base t v) : ∃ cs, v = .agg cs ∧ cs.size = P.cellsOf t := by
  simp only [Value.okWide, ht] at h
  obtain ⟨cs, h1, h2, _⟩ := h
  exact ⟨cs, h1, h2⟩
theorem byte_of_trod {H : Type} {enc : TypeId × Value → H} {w : World} {base : Nat} {sp : Nat → Bool} {held : Bool} {n : Nat} {c : Value} {x : DataW H × List MemPlace}
    (h : DataW.trod enc Tryd.prog w base sp held n 5 [c] = some x) : ∃ k : Nat, c = .int .u8 k ∧ k < 256 ∧ x = (.lit (.int .u8 k), []) := by
  obtain ⟨k, hk, hk2, hk3⟩ := DataW.trod_int pu8_row h
  have g0 : c = .int .u8 k := by simpa using hk
  have hk4 : 0 ≤ k ∧ k < 256 := by
    simp [Lit.wf, IntKind.min, IntKind.max, IntKind.signed, IntKind.bits] at hk3
    omega
  obtain ⟨k, rfl⟩ : ∃ m : Nat, k = m := ⟨k.toNat, by omega⟩
  exact ⟨k, g0, by omega, hk2⟩
theorem pair_of_trod {H : Type} {enc : TypeId × Value → H} {w : World} {base : Nat} {sp : Nat → Bool} {held : Bool} {n : Nat} {cs : List Value} {x : DataW H × List MemPlace}
    (h : DataW.trod enc Tryd.prog w base sp held n 54 cs = some x) : ∃ p : Nat × Nat, cs = pairCells p ∧ p.1 < 256 ∧ p.2 < 256 := by
  obtain ⟨xs, m, rfl, hd, hlen, hxl, hel⟩ := DataW.trod_array pair_row h
  rw [pcells_pair] at hlen
  obtain ⟨c0, c1, rfl⟩ : ∃ a b, cs = [a, b] := by
    match cs, hlen with
    | [a, b], _ => exact ⟨a, b, rfl⟩
  obtain ⟨x0, x1, rfl⟩ : ∃ a b, xs = [a, b] := by
    match xs, hxl with
    | [a, b], _ => exact ⟨a, b, rfl⟩
  have h0 := hel 0 (by omega)
  have h1 := hel 1 (by omega)
  rw [pcells_u8] at h0 h1
  obtain ⟨k0, rfl, hk0, _⟩ := byte_of_trod (x := x0) (c := c0) h0
  obtain ⟨k1, rfl, hk1, _⟩ := byte_of_trod (x := x1) (c := c1) h1
  exact ⟨(k0, k1), rfl, hk0, hk1⟩
theorem pair_of_Trod {H : Type} {enc : TypeId × Value → H} {W : World} {base : Nat} {v : Value} {d : DataW H} {ps : List MemPlace}
    (hval : Value.okWide Tryd.prog W .any base 54 v) (h : DataW.Trod enc Tryd.prog W 0 (fun _ => true) true 54 v d ps) : ∃ x y : Nat, v = .agg #[.int .u8 x, .int .u8 y] ∧ x < 256 ∧ y < 256 := by
  obtain ⟨cs, rfl, _⟩ := okWide_array pair_row hval
  obtain ⟨fuel, hf⟩ := h
  obtain ⟨⟨x, y⟩, hp, hx, hy⟩ := pair_of_trod hf
  refine ⟨x, y, ?_, hx, hy⟩
  have : cs.toList = [.int .u8 x, .int .u8 y] := hp
  congr 1
  rw [← Array.toArray_toList (xs := cs), this]
theorem byte_of_Trod {H : Type} {enc : TypeId × Value → H} {W : World} {base : Nat} {v : Value} {d : DataW H} {ps : List MemPlace}
    (hval : Value.okWide Tryd.prog W .any base 5 v) (h : DataW.Trod enc Tryd.prog W 0 (fun _ => true) true 5 v d ps) : ∃ x : Nat, v = .int .u8 x ∧ x < 256 := by
  obtain ⟨n, rfl⟩ := okWide_int pu8_row hval
  obtain ⟨fuel, hf⟩ := h
  obtain ⟨k, hk, hk2, _⟩ := byte_of_trod (c := .int .u8 n) hf
  exact ⟨k, hk, hk2⟩
theorem pairs_of_trod {H : Type} {enc : TypeId × Value → H} {W : World} {base j : Nat} {v : Value} {d : DataW H} {ps : List MemPlace} {ts : List TypeId} {ds : List (DataW H)}
    (hval : Value.okWide Tryd.prog W .any base 41 v) (h : DataW.Trod enc Tryd.prog W 0 (fun _ => true) true 41 v d ps)
    (hsz : (DataW.weightsEach Tryd.prog ts ds).all (· ≤ reachBytes) = true) (ht : ts[j]? = some 41) (hd : ds[j]? = some d) :
    ∃ l : List (Nat × Nat), Pairs W v l ∧ (∀ p ∈ l, p.1 < 256 ∧ p.2 < 256) ∧ l.length ≤ 4611686018427387904 := by
  obtain ⟨a0, len0, cap0, rfl⟩ := okWide_slice Tryd.underlying41 hval
  obtain ⟨fuel, hf⟩ := h
  rcases Deep.open_slice Tryd.underlying41 hf with ⟨hcs, _⟩ | ⟨a, len, cap, m, n, D, Pl, hcs, _, hlc, hcap, hm, hx, hel⟩
  · have : (Value.slice a0 len0 cap0) = .slice none 0 0 := by simpa [Value.cells] using hcs
    rw [this]
    exact ⟨[], Pairs.none_ W, (fun t h => by cases h), by simp⟩
  · have hv : (Value.slice a0 len0 cap0) = .slice (some a) len cap := by simpa [Value.cells] using hcs
    rw [hv]
    have hmc : m = cap := by simpa using hm
    have htok : ∀ i, i < len → ∃ t : Nat × Nat, W.cells? 0 (a.add (i * 2)) 2 = some (pairCells t) ∧ t.1 < 256 ∧ t.2 < 256 := by
      intro i hi
      obtain ⟨cs', h1, h2⟩ := hel i (by omega)
      rw [pcells_pair] at h1
      obtain ⟨t, rfl, h3, h4⟩ := pair_of_trod h2
      exact ⟨t, h1, h3, h4⟩
    obtain ⟨f, hfi⟩ := Deep.choose_lt htok
    have hdd : d = .slice ((List.range len).map D) ((List.range (m - len)).map fun j => D (len + j)) := (Prod.mk.inj hx).1
    have hlen : ((List.range len).map f).length = len := by simp
    have hwt := DataW.weights_mem_each (P := Tryd.prog) ht hd
    have hall := List.all_eq_true.1 hsz
    have hcap2 : cap * 2 ≤ reachBytes := by
      have h1 := hall (cap * 2) (hwt _ (by
        rw [hdd]
        simp only [DataW.weights, Tryd.underlying41, List.mem_cons]
        left
        have hb : Tryd.prog.bytesOf 54 = 2 := by kernel_rfl
        rw [hb]; simp; omega))
      simpa using h1
    have hr : reachBytes = 140737488351232 := rfl
    refine ⟨(List.range len).map f, ?_, ?_, by rw [hlen]; omega⟩
    · refine ⟨some a, cap, by rw [hlen], by rw [hlen]; exact hlc, ?_⟩
      refine ⟨pairRow_len _, fun h0 => ⟨a, rfl, ?_, ?_⟩⟩
      · have h1 := (hfi 0 (by omega)).1
        have := World.cells?_block h1 (by omega)
        simpa [block_of_add] using this
      · intro q u hu
        have hq : q < len * 2 := by
          have h1 := (List.getElem?_eq_some_iff.1 hu).1
          rw [pairRow_len, hlen] at h1
          exact h1
        have h1 := (World.cells?_some (hfi (q / 2) (by omega)).1).2.2 (q % 2) (by omega)
        rw [add_of_add, show q / 2 * 2 + q % 2 = q by omega] at h1
        rw [h1]
        have hget : ∀ (l : List (Nat × Nat)) (k r : Nat), k < l.length → r < 2 → (pairRow l)[k * 2 + r]? = (pairCells (l.getD k (0, 0)))[r]? := by
          intro l
          induction l with
          | nil => intro k r h; simp at h
          | cons x y ih =>
            intro k r hk hr
            have e : pairRow (x :: y) = pairCells x ++ pairRow y := by simp [pairRow]
            rw [e]
            cases k with
            | zero =>
              rw [List.getElem?_append_left (by simp [pairCells]; omega)]
              simp
            | succ k =>
              rw [List.getElem?_append_right (by simp [pairCells]; omega)]
              have : (k + 1) * 2 + r - (pairCells x).length = k * 2 + r := by simp [pairCells]; omega
              rw [this, ih k r (by simpa using hk) hr]
              simp
        have h2 := hget ((List.range len).map f) (q / 2) (q % 2) (by rw [hlen]; omega) (by omega)
        rw [show q / 2 * 2 + q % 2 = q by omega] at h2
        rw [hu] at h2
        rw [h2]
        have h3 : ((List.range len).map f).getD (q / 2) (0, 0) = f (q / 2) := by
          simp [List.getD, show q / 2 < len by omega]
        rw [h3]
    · intro t htm
      obtain ⟨i, hi, rfl⟩ := List.mem_map.1 htm
      have hi2 : i < len := by simpa using hi
      exact (hfi i hi2).2
end Go.Proofs.YtkckmnipidpdeaaDoor
