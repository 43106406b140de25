/-
  OPENING the arguments of this seat's laws: places, edits, bytes, numbers of 16 bits.
-/
import Derived.Test.YtfdcimkdhioepaaCRow
import Derived.Deep.Slices
import Derived.SizedLaws
import Derived.ChangeOld
namespace Go.Proofs.Ytfdcimkdhioepaa
open Go.ChangeShapes Go.WideShapes Go.ChangeAt Go.RowKit Go.MapKept Go.ChangeMaps Mist
set_option maxRecDepth 100000
theorem u8_row : Try.prog.underlying 5 = some (.int .u8) := by kernel_rfl
theorem u16_row : Try.prog.underlying 48 = some (.int .u16) := by kernel_rfl
theorem int_row : Try.prog.underlying 3 = some (.int .i64) := by kernel_rfl
theorem str_row : Try.prog.underlying 9 = some .string := by kernel_rfl
theorem pair16_row : Try.prog.underlying 49 = some (.array 2 48) := by kernel_rfl
theorem cells_u8 : Try.prog.cellsOf 5 = 1 := by kernel_rfl
theorem cells_u16 : Try.prog.cellsOf 48 = 1 := by kernel_rfl
theorem cells_int : Try.prog.cellsOf 3 = 1 := by kernel_rfl
theorem cells_str : Try.prog.cellsOf 9 = 1 := by kernel_rfl
theorem cells_pair16 : Try.prog.cellsOf 49 = 2 := by kernel_rfl
theorem cells_spot : Try.prog.cellsOf 28 = 2 := by kernel_rfl
theorem cells_edit : Try.prog.cellsOf 41 = 4 := by kernel_rfl
theorem okWide_array {P : Program} {w : World} {r : Reach} {base : Nat} {t e : TypeId} {n : Nat} {v : Value} (ht : P.underlying t = some (.array n e)) (h : Value.okWide P w r base t v) : ∃ cs, v = .agg cs := by
  simp only [Value.okWide, ht] at h
  obtain ⟨cs, h1, _⟩ := h
  exact ⟨cs, h1⟩
theorem okWide_spot {w : World} {r : Reach} {base : Nat} {v : Value} (h : Value.okWide Try.prog w r base 28 v) : ∃ cs, v = .agg cs := by
  simp only [Value.okWide, Try.underlying28] at h
  obtain ⟨cs, h1, _⟩ := h
  exact ⟨cs, h1⟩
theorem okWide_edit {w : World} {r : Reach} {base : Nat} {v : Value} (h : Value.okWide Try.prog w r base 41 v) : ∃ cs, v = .agg cs := by
  simp only [Value.okWide, Try.underlying41] at h
  obtain ⟨cs, h1, _⟩ := h
  exact ⟨cs, h1⟩
section
variable {H : Type} {enc : TypeId × Value → H} {w : World} {base : Nat} {sp : Nat → Bool} {held : Bool} {n : Nat}
theorem int_of_trod {c : Value} {x : DataW H × List MemPlace} (h : DataW.trod enc Try.prog w base sp held n 3 [c] = some x) : ∃ k : Int, c = .int .i64 k := by
  obtain ⟨k, hk, _, _⟩ := DataW.trod_int int_row h
  exact ⟨k, by simpa using hk⟩
theorem str_of_trod {c : Value} {x : DataW H × List MemPlace} (h : DataW.trod enc Try.prog w base sp held n 9 [c] = some x) : ∃ l : Bs, c = .string (ofL l) := by
  obtain ⟨k, hk, _, _⟩ := DataW.trod_string str_row h
  exact ⟨k.data.toList, by simpa [ofL] using hk⟩
theorem byte_of_trod {c : Value} {x : DataW H × List MemPlace} (h : DataW.trod enc Try.prog w base sp held n 5 [c] = some x) : ∃ b : UInt8, c = .int .u8 b.toNat := by
  obtain ⟨k, hk, hk2, hk3⟩ := DataW.trod_int u8_row h
  have g0 : c = .int .u8 k := by simpa using hk
  have hk4 : 0 ≤ k ∧ k < 256 := by
    simp [Lit.wf, IntKind.min, IntKind.max, IntKind.signed, IntKind.bits] at hk3
    omega
  refine ⟨UInt8.ofNat k.toNat, ?_⟩
  rw [g0, UInt8.toNat_ofNat']
  congr 1
  omega
theorem num_of_trod {c : Value} {x : DataW H × List MemPlace} (h : DataW.trod enc Try.prog w base sp held n 48 [c] = some x) : ∃ k : Nat, c = .int .u16 k ∧ k < 65536 := by
  obtain ⟨k, hk, hk2, hk3⟩ := DataW.trod_int u16_row h
  have g0 : c = .int .u16 k := by simpa using hk
  have hk4 : 0 ≤ k ∧ k < 65536 := by
    simp [Lit.wf, IntKind.min, IntKind.max, IntKind.signed, IntKind.bits] at hk3
    omega
  obtain ⟨k, rfl⟩ : ∃ m : Nat, k = m := ⟨k.toNat, by omega⟩
  exact ⟨k, g0, by omega⟩
theorem spot_of_trod {cs : List Value} {x : DataW H × List MemPlace} (h : DataW.trod enc Try.prog w base sp held n 28 cs = some x) : ∃ a b : Int, cs = [.int .i64 a, .int .i64 b] := by
  obtain ⟨xs, m, rfl, hd, hlen, hxl, hel⟩ := DataW.trod_struct Try.underlying28 h
  rw [cells_spot] at hlen
  obtain ⟨c0, c1, rfl⟩ : ∃ a b, cs = [a, b] := by
    match cs, hlen with
    | [a, b], _ => exact ⟨a, b, rfl⟩
  obtain ⟨x0, x1, rfl⟩ : ∃ a b, xs = [a, b] := by
    have hx2 : xs.length = 2 := hxl
    match xs, hx2 with
    | [a, b], _ => exact ⟨a, b, rfl⟩
  have e0 : DataW.trod enc Try.prog w base sp held m 3 (([c0, c1].drop 0).take (Try.prog.cellsOf 3)) = some x0 := hel 0 _ rfl
  have e1 : DataW.trod enc Try.prog w base sp held m 3 (([c0, c1].drop 1).take (Try.prog.cellsOf 3)) = some x1 := hel 1 _ rfl
  rw [cells_int] at e0 e1
  obtain ⟨a, rfl⟩ := int_of_trod e0
  obtain ⟨b, rfl⟩ := int_of_trod e1
  exact ⟨a, b, rfl⟩
theorem edit_of_trod {cs : List Value} {x : DataW H × List MemPlace} (h : DataW.trod enc Try.prog w base sp held n 41 cs = some x) : ∃ (a b c : Int) (t : Bs), cs = [.int .i64 a, .int .i64 b, .int .i64 c, .string (ofL t)] := by
  obtain ⟨xs, m, rfl, hd, hlen, hxl, hel⟩ := DataW.trod_struct Try.underlying41 h
  rw [cells_edit] at hlen
  obtain ⟨c0, c1, c2, c3, rfl⟩ : ∃ a b c d, cs = [a, b, c, d] := by
    match cs, hlen with
    | [a, b, c, d], _ => exact ⟨a, b, c, d, rfl⟩
  obtain ⟨x0, x1, x2, x3, rfl⟩ : ∃ a b c d, xs = [a, b, c, d] := by
    have hx2 : xs.length = 4 := hxl
    match xs, hx2 with
    | [a, b, c, d], _ => exact ⟨a, b, c, d, rfl⟩
  have e0 : DataW.trod enc Try.prog w base sp held m 3 (([c0, c1, c2, c3].drop 0).take (Try.prog.cellsOf 3)) = some x0 := hel 0 _ rfl
  have e1 : DataW.trod enc Try.prog w base sp held m 3 (([c0, c1, c2, c3].drop 1).take (Try.prog.cellsOf 3)) = some x1 := hel 1 _ rfl
  have e2 : DataW.trod enc Try.prog w base sp held m 3 (([c0, c1, c2, c3].drop 2).take (Try.prog.cellsOf 3)) = some x2 := hel 2 _ rfl
  have e3 : DataW.trod enc Try.prog w base sp held m 9 (([c0, c1, c2, c3].drop 3).take (Try.prog.cellsOf 9)) = some x3 := hel 3 _ rfl
  rw [cells_int] at e0 e1 e2
  rw [cells_str] at e3
  obtain ⟨a, rfl⟩ := int_of_trod e0
  obtain ⟨b, rfl⟩ := int_of_trod e1
  obtain ⟨c, rfl⟩ := int_of_trod e2
  obtain ⟨t, rfl⟩ := str_of_trod e3
  exact ⟨a, b, c, t, rfl⟩
theorem pair16_of_trod {cs : List Value} {x : DataW H × List MemPlace} (h : DataW.trod enc Try.prog w base sp held n 49 cs = some x) : ∃ a b : Nat, cs = [.int .u16 a, .int .u16 b] ∧ a < 65536 ∧ b < 65536 := by
  obtain ⟨xs, m, rfl, hd, hlen, hxl, hel⟩ := DataW.trod_array pair16_row h
  rw [cells_pair16] at hlen
  obtain ⟨c0, c1, rfl⟩ : ∃ a b, cs = [a, b] := by
    match cs, hlen with
    | [a, b], _ => exact ⟨a, b, rfl⟩
  obtain ⟨x0, x1, rfl⟩ : ∃ a b, xs = [a, b] := by
    match xs, hxl with
    | [a, b], _ => exact ⟨a, b, rfl⟩
  have h0 := hel 0 (by omega)
  have h1 := hel 1 (by omega)
  rw [cells_u16] at h0 h1
  obtain ⟨k0, rfl, hk0⟩ := num_of_trod (x := x0) (c := c0) h0
  obtain ⟨k1, rfl, hk1⟩ := num_of_trod (x := x1) (c := c1) h1
  exact ⟨k0, k1, rfl, hk0, hk1⟩
end
section
variable {H : Type} {enc : TypeId × Value → H} {W : World} {base : Nat} {v : Value} {d : DataW H} {ps : List MemPlace}
theorem agg_of {cs : Array Value} {l : List Value} (h : cs.toList = l) : Value.agg cs = .agg l.toArray := by
  congr 1
  rw [← h, Array.toArray_toList]
theorem spot_of_Trod (hval : Value.okWide Try.prog W .any base 28 v) (h : DataW.Trod enc Try.prog W 0 (fun _ => true) true 28 v d ps) : ∃ x y : Int, v = .agg #[.int .i64 x, .int .i64 y] := by
  obtain ⟨cs, rfl⟩ := okWide_spot hval
  obtain ⟨fuel, hf⟩ := h
  obtain ⟨a, b, hp⟩ := spot_of_trod hf
  exact ⟨a, b, agg_of hp⟩
theorem edit_of_Trod (hval : Value.okWide Try.prog W .any base 41 v) (h : DataW.Trod enc Try.prog W 0 (fun _ => true) true 41 v d ps) : ∃ (a b c : Int) (t : Bs), v = .agg #[.int .i64 a, .int .i64 b, .int .i64 c, .string (ofL t)] := by
  obtain ⟨cs, rfl⟩ := okWide_edit hval
  obtain ⟨fuel, hf⟩ := h
  obtain ⟨a, b, c, t, hp⟩ := edit_of_trod hf
  exact ⟨a, b, c, t, agg_of hp⟩
theorem u16_of_Trod (hval : Value.okWide Try.prog W .any base 48 v) (h : DataW.Trod enc Try.prog W 0 (fun _ => true) true 48 v d ps) : ∃ x : Nat, v = .int .u16 x ∧ x < 65536 := by
  obtain ⟨n, rfl⟩ := okWide_int u16_row hval
  obtain ⟨fuel, hf⟩ := h
  exact num_of_trod (c := .int .u16 n) hf
theorem pair16_of_Trod (hval : Value.okWide Try.prog W .any base 49 v) (h : DataW.Trod enc Try.prog W 0 (fun _ => true) true 49 v d ps) : ∃ x y : Nat, v = .agg #[.int .u16 x, .int .u16 y] ∧ x < 65536 ∧ y < 65536 := by
  obtain ⟨cs, rfl⟩ := okWide_array pair16_row hval
  obtain ⟨fuel, hf⟩ := h
  obtain ⟨x, y, hp, hx, hy⟩ := pair16_of_trod hf
  exact ⟨x, y, agg_of hp, hx, hy⟩
end
end Go.Proofs.Ytfdcimkdhioepaa
