/-
  OPENING the arguments that are slices of tokens: what an argument of that type reads as, in plain lists.
-/
import Derived.Test.YtpomgledekkjjaaDoorRow
import Derived.Test.YtpomgledekkjjaaDoorWalkH
import Derived.Test.YtpomgledekkjjaaDoorPlain8
import Derived.Deep.Slices
import Derived.SizedLaws
import Derived.ChangeOld
namespace Go.Proofs.YtpomgledekkjjaaDoor
open Go.ChangeShapes Go.WideShapes Go.ChangeAt Go.RowKit Go.MapKept Go.ChangeMaps Mist
set_option maxRecDepth 100000
theorem weightsAll_mem {H : Type} {P : Program} {e : TypeId} {d : DataW H} : ∀ {l : List (DataW H)}, d ∈ l → ∀ n ∈ d.weights P e, n ∈ DataW.weightsAll P e l
  | [], h, _, _ => by cases h
  | x :: r, h, n, hn => by
    simp only [DataW.weightsAll, List.mem_append]
    rcases List.mem_cons.1 h with rfl | h
    · exact .inl hn
    · exact .inr (weightsAll_mem h n hn)
theorem u8_row : Tryd.prog.underlying 5 = some (.int .u8) := by kernel_rfl
theorem int_row : Tryd.prog.underlying 3 = some (.int .i64) := by kernel_rfl
theorem str_row : Tryd.prog.underlying 9 = some .string := by kernel_rfl
theorem cells_u8 : Tryd.prog.cellsOf 5 = 1 := by kernel_rfl
theorem cells_int : Tryd.prog.cellsOf 3 = 1 := by kernel_rfl
theorem cells_str : Tryd.prog.cellsOf 9 = 1 := by kernel_rfl
theorem cells_tok : Tryd.prog.cellsOf 26 = 3 := by kernel_rfl
theorem inI64_of_wf {n : Int} (h : (Lit.int .i64 n).wf = true) : inI64 n := by
  simp [Lit.wf, IntKind.min, IntKind.max, IntKind.signed, IntKind.bits] at h
  unfold inI64; omega
theorem tok_of_trod {H : Type} {enc : TypeId × Value → H} {w : World} {base : Nat} {sp : Nat → Bool} {held : Bool} {n : Nat} {cs : List Value} {d : DataW H} {pl : List MemPlace}
    (h : DataW.trod enc Tryd.prog w base sp held n 26 cs = some (d, pl)) :
    ∃ t : Mist.Tok, cs = tokCells t ∧ inI64 t.at_ ∧ d = .agg [.lit (.int .u8 t.kind), .lit (.string t.text), .lit (.int .i64 t.at_)] := by
  obtain ⟨xs, n, rfl, hd, hlen, hxl, hel⟩ := DataW.trod_struct Tryd.underlying26 h
  rw [cells_tok] at hlen
  obtain ⟨c0, c1, c2, rfl⟩ : ∃ a b c, cs = [a, b, c] := by
    match cs, hlen with
    | [a, b, c], _ => exact ⟨a, b, c, rfl⟩
  obtain ⟨x0, x1, x2, rfl⟩ : ∃ a b c, xs = [a, b, c] := by
    have hx3 : xs.length = 3 := hxl
    match xs, hx3 with
    | [a, b, c], _ => exact ⟨a, b, c, rfl⟩
  have e0 : DataW.trod enc Tryd.prog w base sp held n 5 (([c0, c1, c2].drop 0).take (Tryd.prog.cellsOf 5)) = some x0 := hel 0 _ rfl
  have e1 : DataW.trod enc Tryd.prog w base sp held n 9 (([c0, c1, c2].drop 1).take (Tryd.prog.cellsOf 9)) = some x1 := hel 1 _ rfl
  have e2 : DataW.trod enc Tryd.prog w base sp held n 3 (([c0, c1, c2].drop 2).take (Tryd.prog.cellsOf 3)) = some x2 := hel 2 _ rfl
  obtain ⟨k, hk, hk2, hk3⟩ := DataW.trod_int u8_row e0
  obtain ⟨s, hs, hs2, hs3⟩ := DataW.trod_string str_row e1
  obtain ⟨a, ha, ha2, ha3⟩ := DataW.trod_int int_row e2
  rw [cells_u8] at hk
  rw [cells_str] at hs
  rw [cells_int] at ha
  have g0 : c0 = .int .u8 k := by simpa using hk
  have g1 : c1 = .string s := by simpa using hs
  have g2 : c2 = .int .i64 a := by simpa using ha
  have hk4 : 0 ≤ k := by
    simp [Lit.wf, IntKind.min, IntKind.max, IntKind.signed, IntKind.bits] at hk3
    omega
  obtain ⟨k, rfl⟩ : ∃ m : Nat, k = m := ⟨k.toNat, by omega⟩
  refine ⟨⟨k, s.data.toList, a⟩, ?_, inI64_of_wf ha3, ?_⟩
  · rw [g0, g1, g2]; simp [tokCells, ofL]
  · have := (Prod.mk.inj hd).1
    rw [this, hk2, hs2, ha2]; rfl
theorem toks_of_trod {H : Type} {enc : TypeId × Value → H} {W : World} {base j : Nat} {v : Value} {d : DataW H} {ps : List MemPlace} {ts : List TypeId} {ds : List (DataW H)}
    (hval : Value.okWide Tryd.prog W .any base 23 v) (h : DataW.Trod enc Tryd.prog W 0 (fun _ => true) true 23 v d ps)
    (hsz : (DataW.weightsEach Tryd.prog ts ds).all (· ≤ reachBytes) = true) (ht : ts[j]? = some 23) (hd : ds[j]? = some d) :
    ∃ l : List Mist.Tok, Toks W v l ∧ TokWide l ∧ l.length ≤ 4611686018427387904 := by
  obtain ⟨a0, len0, cap0, rfl⟩ := okWide_slice Tryd.underlying23 hval
  obtain ⟨fuel, hf⟩ := h
  rcases Deep.open_slice Tryd.underlying23 hf with ⟨hcs, _⟩ | ⟨a, len, cap, m, n, D, Pl, hcs, _, hlc, hcap, hm, hx, hel⟩
  · have : (Value.slice a0 len0 cap0) = .slice none 0 0 := by simpa [Value.cells] using hcs
    rw [this]
    exact ⟨[], Toks.none_ W, (fun t h => by cases h), by simp⟩
  · have hv : (Value.slice a0 len0 cap0) = .slice (some a) len cap := by simpa [Value.cells] using hcs
    rw [hv]
    have hmc : m = cap := by simpa using hm
    have htok : ∀ i, i < len → ∃ t : Mist.Tok, W.cells? 0 (a.add (i * 3)) 3 = some (tokCells t) ∧ inI64 t.at_ ∧ D i = .agg [.lit (.int .u8 t.kind), .lit (.string t.text), .lit (.int .i64 t.at_)] := by
      intro i hi
      obtain ⟨cs', h1, h2⟩ := hel i (by omega)
      rw [cells_tok] at h1
      obtain ⟨t, rfl, h3, h4⟩ := tok_of_trod h2
      exact ⟨t, h1, h3, h4⟩
    have : Inhabited Mist.Tok := ⟨tok0⟩
    obtain ⟨f, hfi⟩ := Deep.choose_lt htok
    have hdd : d = .slice ((List.range len).map D) ((List.range (m - len)).map fun j => D (len + j)) := (Prod.mk.inj hx).1
    have hlen : ((List.range len).map f).length = len := by simp
    have hwt := DataW.weights_mem_each (P := Tryd.prog) ht hd
    have hall := List.all_eq_true.1 hsz
    have hcap2 : cap * 32 ≤ reachBytes := by
      have h1 := hall (cap * 32) (hwt _ (by
        rw [hdd]
        simp only [DataW.weights, Tryd.underlying23, List.mem_cons]
        left
        have hb : Tryd.prog.bytesOf 26 = 32 := by kernel_rfl
        rw [hb]; simp; omega))
      simpa using h1
    have hr : reachBytes = 140737488351232 := rfl
    refine ⟨(List.range len).map f, ?_, ?_, by rw [hlen]; omega⟩
    · refine ⟨some a, cap, by rw [hlen], by rw [hlen]; exact hlc, ?_⟩
      refine ⟨rowCells_len _, fun h0 => ⟨a, rfl, ?_, ?_⟩⟩
      · have h1 := (hfi 0 (by omega)).1
        have := World.cells?_block h1 (by omega)
        simpa [block_of_add] using this
      · intro q u hu
        have hq : q < len * 3 := by
          have h1 := (List.getElem?_eq_some_iff.1 hu).1
          rw [rowCells_len, hlen] at h1
          exact h1
        have h1 := (World.cells?_some (hfi (q / 3) (by omega)).1).2.2 (q % 3) (by omega)
        rw [add_of_add, show q / 3 * 3 + q % 3 = q by omega] at h1
        rw [h1]
        have hget : ∀ (l : List Mist.Tok) (k r : Nat), k < l.length → r < 3 → (rowCells l)[k * 3 + r]? = (tokCells (l.getD k tok0))[r]? := by
          intro l
          induction l with
          | nil => intro k r h; simp at h
          | cons x y ih =>
            intro k r hk hr
            have e : rowCells (x :: y) = tokCells x ++ rowCells y := by simp [rowCells]
            rw [e]
            cases k with
            | zero =>
              rw [List.getElem?_append_left (by simp [tokCells]; omega)]
              simp
            | succ k =>
              rw [List.getElem?_append_right (by simp [tokCells]; omega)]
              have : (k + 1) * 3 + r - (tokCells x).length = k * 3 + r := by simp [tokCells]; omega
              rw [this, ih k r (by simpa using hk) hr]
              simp
        have h2 := hget ((List.range len).map f) (q / 3) (q % 3) (by rw [hlen]; omega) (by omega)
        rw [show q / 3 * 3 + q % 3 = q by omega] at h2
        rw [hu] at h2
        rw [h2]
        have h3 : ((List.range len).map f).getD (q / 3) tok0 = f (q / 3) := by
          simp [List.getD, show q / 3 < len by omega]
        rw [h3]
    · intro t htm
      obtain ⟨i, hi, rfl⟩ := List.mem_map.1 htm
      have hi2 : i < len := by simpa using hi
      obtain ⟨_, h2, h3⟩ := hfi i hi2
      refine ⟨?_, h2⟩
      have h1 := hall (f i).text.length (hwt _ (by
        rw [hdd]
        simp only [DataW.weights, Tryd.underlying23, List.mem_cons, List.mem_append]
        right; left
        refine weightsAll_mem (d := D i) (List.mem_map.2 ⟨i, hi, rfl⟩) _ ?_
        rw [h3]
        simp [DataW.weights, DataW.weightsEach, Tryd.underlying26]))
      simpa [hr] using h1
end Go.Proofs.YtpomgledekkjjaaDoor
