/-
  OPENING the arguments that are slices of bytes.
-/
import Derived.Test.YtfdcimkdhioepaaCOpen
import Derived.Test.YtfdcimkdhioepaaCY
namespace Go.Proofs.Ytfdcimkdhioepaa
open Go.ChangeShapes Go.WideShapes Go.ChangeAt Go.RowKit Go.MapKept Go.ChangeMaps Mist
set_option maxRecDepth 100000
theorem bytes_of_trod {H : Type} {enc : TypeId × Value → H} {W : World} {base j : Nat} {v : Value} {d : DataW H} {ps : List MemPlace} {ts : List TypeId} {ds : List (DataW H)}
    (hval : Value.okWide Try.prog W .any base 45 v) (h : DataW.Trod enc Try.prog W 0 (fun _ => true) true 45 v d ps)
    (hsz : (DataW.weightsEach Try.prog ts ds).all (· ≤ reachBytes) = true) (ht : ts[j]? = some 45) (hd : ds[j]? = some d) :
    ∃ l : Bs, U8s W v l ∧ l.length ≤ 4611686018427387904 := by
  obtain ⟨a0, len0, cap0, rfl⟩ := okWide_slice Try.underlying45 hval
  obtain ⟨fuel, hf⟩ := h
  rcases Deep.open_slice Try.underlying45 hf with ⟨hcs, _⟩ | ⟨a, len, cap, m, n, D, Pl, hcs, _, hlc, hcap, hm, hx, hel⟩
  · have : (Value.slice a0 len0 cap0) = .slice none 0 0 := by simpa [Value.cells] using hcs
    rw [this]
    exact ⟨[], U8s.none_ W, by simp⟩
  · have hv : (Value.slice a0 len0 cap0) = .slice (some a) len cap := by simpa [Value.cells] using hcs
    rw [hv]
    have hmc : m = cap := by simpa using hm
    have htok : ∀ i, i < len → ∃ b : UInt8, W.cells? 0 (a.add (i * 1)) 1 = some [.int .u8 b.toNat] := by
      intro i hi
      obtain ⟨cs', h1, h2⟩ := hel i (by omega)
      rw [cells_u8] at h1
      obtain ⟨k, hk, hk2, hk3⟩ := DataW.trod_int u8_row h2
      have hk4 : 0 ≤ k ∧ k < 256 := by
        simp [Lit.wf, IntKind.min, IntKind.max, IntKind.signed, IntKind.bits] at hk3
        omega
      have g0 : cs' = [.int .u8 k] := by simpa using hk
      refine ⟨UInt8.ofNat k.toNat, ?_⟩
      rw [h1, g0, UInt8.toNat_ofNat', show ((k.toNat % 2 ^ 8 : Nat) : Int) = k by omega]
    obtain ⟨f, hfi⟩ := Deep.choose_lt htok
    have hdd : d = .slice ((List.range len).map D) ((List.range (m - len)).map fun j => D (len + j)) := (Prod.mk.inj hx).1
    have hlen : ((List.range len).map f).length = len := by simp
    have hwt := DataW.weights_mem_each (P := Try.prog) ht hd
    have hall := List.all_eq_true.1 hsz
    have hcap2 : cap * 1 ≤ reachBytes := by
      have h1 := hall (cap * 1) (hwt _ (by
        rw [hdd]
        simp only [DataW.weights, Try.underlying45, List.mem_cons]
        left
        have hb : Try.prog.bytesOf 5 = 1 := by kernel_rfl
        rw [hb]; simp; omega))
      simpa using h1
    have hr : reachBytes = 140737488351232 := rfl
    refine ⟨(List.range len).map f, ?_, by rw [hlen]; omega⟩
    refine ⟨some a, cap, by rw [hlen], by rw [hlen]; exact hlc, ?_⟩
    refine ⟨by rw [u8Vals_len, hlen]; omega, fun h0 => ⟨a, rfl, ?_, ?_⟩⟩
    · have h1 := hfi 0 (by omega)
      have := World.cells?_block h1 (by omega)
      simpa [block_of_add] using this
    · intro q u hu
      have hq : q < len := by
        have h1 := (List.getElem?_eq_some_iff.1 hu).1
        rw [u8Vals_len, hlen] at h1
        exact h1
      have h1 := (World.cells?_some (hfi q hq)).2.2 0 (by omega)
      rw [add_of_add, show q * 1 + 0 = q by omega] at h1
      rw [h1]
      rw [← hu]
      simp [u8Vals, hq]
end Go.Proofs.Ytfdcimkdhioepaa
