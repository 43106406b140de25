/-
  WALKS of chapter 1: strings.Builder: WriteByte.
-/
import Derived.Test.YtfdcimkdhioepaaCL
namespace Go.Proofs.Ytfdcimkdhioepaa
open Go.RowKit Mist
attribute [local go_sem] ofL_extract ofL_size ofL_get ofL_bytes ofL_append
set_option maxRecDepth 100000 in
set_option maxHeartbeats 2000000 in
theorem writeByte_any (T n B g : Nat) (hT : BldType T n) (rest : List Value) (bs : Bs) (c : UInt8) (w : World) (h : Bld T B g rest bs w) (hn : n = rest.length + 2) (hlen : bs.length + 1 ≤ 1000000000) (hBw : B ≤ w.heap.size) :
    Calls Try.prog 51 #[.pointer (some ⟨g, 0, none⟩), .int .u8 c.toNat] w fun e w' =>
      e = .returned .nilIface ∧ Bld T B g rest (bs ++ [c]) w' ∧ Below B w w' ∧ Spare g w w' := by
  obtain ⟨i0, hi, hz0, hz1, hz2⟩ := info_parts byte_info
  go_enter Try.func51, Try.ntmps51
  go_wp2_with (go_at_call 65; refine (copyCheck_any T n B g hT rest bs _ h hn).mono ?_)
  rintro e w1 ⟨rfl, h1, hb1, hs1⟩
  have hlt := h1.lt
  obtain ⟨hB, v, hbk, hown, hne⟩ := h1
  have c0 : w1.cell? ⟨g, 0, none⟩ = some (.pointer (some ⟨g, 0, none⟩)) := by rw [Lib.cell_of_heap hbk]; rfl
  have c1 : w1.cell? ⟨g, 1, none⟩ = some v := by rw [Lib.cell_of_heap hbk]; rfl
  have HN := Lib.hid hn; clear hn
  have hz1' := hb1.size
  have HNW := Lib.hid (Blk.new w1 5 #[.int .u8 c.toNat])
  go_wp2_with (at_builtin; refine wpList_append_own _ rfl (.tmp 11) (.tmp 13) 45 rfl B 5 i0 _ 1 1 Try.underlying45 hi hz0 hz1 hz2 rfl (by decide) _ bs.length (Lib.byteCells bs) rfl (hown.alloc _) ⟨w1.heap.size, 0, none⟩ 1 1 [.int .u8 c.toNat] rfl rfl ?c1 ?c2 ?c3 ?c4 ?c5 ?_)
  case c1 => exact World.news_of_block (cs := #[.int .u8 c.toNat]) (t := 5) (fr := (0, 0)) (heap_alloc_new w1 _)
  case c2 => intro u hu; rcases List.mem_singleton.1 hu with rfl; rfl
  case c3 => simp only [maxLen]; omega
  case c4 => omega
  case c5 => simp; omega
  intro v' w2 hown' hgrow _
  have hb2 : w2.heap[g]? = some (.cells (.pointer (some ⟨g, 0, none⟩) :: v :: rest).toArray T (0, 0)) := by
    rw [hgrow.block g (by simp; omega) (fun e => hne e.symm)]
    exact (Below.heap_alloc w1 _ g hlt).trans hbk
  have HB2 := Lib.hid hb2; clear hb2
  have d0 : w2.cell? ⟨g, 0, none⟩ = some (.pointer (some ⟨g, 0, none⟩)) := by rw [Lib.cell_of_heap HB2.out]; rfl
  have d1 : w2.cell? ⟨g, 1, none⟩ = some v := by rw [Lib.cell_of_heap HB2.out]; rfl
  have f1 : w2.frozen? ⟨g, 1, none⟩ = false := Lib.frozen_of_heap HB2.out 1
  obtain ⟨ao, cap, rfl⟩ := own_form hown'
  clear c0 c1 hbk
  have HO := Lib.hid hown'; clear hown'
  have HO1 := Lib.hid hown; clear hown
  go_wp2
  go_ret
  refine ⟨rfl, .inr ?_, ?_, ?_⟩
  · refine BldP.put hB HB2.out (bs' := bs ++ [c]) ?_ hT.ne
    have h := HO.out
    rw [List.length_append]
    simpa [Lib.byteCells] using h
  · exact ((hb1.alloc (by have := hb1.size; omega) _).grown hgrow (by have := hb1.size; simp; omega) (fun k hk => (HO1.out.lt k hk).1)).setCell (p := ⟨g, 1, none⟩) hB _
  · refine ((hs1.trans (Spare.of_below ((Below.refl _ _).alloc (Nat.le_refl _) _))).trans ⟨hgrow.size, fun k hk _ hn => hgrow.block k hk (fun e => ?_)⟩).set 1 _
    rcases HO1.out.2 with ⟨hv, _⟩ | ⟨q, cap', cur, hv, _, hq, _⟩
    · rw [hv] at e; simp [Value.ownBlock] at e
    · rw [hv] at e; simp [Value.ownBlock] at e
      rw [e] at hn; exact hn _ _ ((Below.heap_alloc w1 _ q (Array.getElem?_eq_some_iff.1 hq).1).trans hq)
end Go.Proofs.Ytfdcimkdhioepaa
