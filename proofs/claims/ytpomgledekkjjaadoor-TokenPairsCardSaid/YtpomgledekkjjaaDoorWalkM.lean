/-
  WALKS, thirteenth part: strings.Builder: WriteString, Len, String.
-/
import Derived.Test.YtpomgledekkjjaaDoorWalkL
namespace Go.Proofs.YtpomgledekkjjaaDoor
open Go.RowKit Mist
attribute [local go_sem] ofL_extract ofL_size ofL_get ofL_bytes ofL_append
theorem strCells_ofL (s : Bs) : Lib.strCells (ofL s) = Lib.byteCells s := rfl
set_option maxRecDepth 100000 in
set_option maxHeartbeats 2000000 in
theorem writeString_any (T n B g : Nat) (hT : BldType T n) (rest : List Value) (bs s : Bs) (w : World) (h : Bld T B g rest bs w) (hn : n = rest.length + 2) (hlen : bs.length + s.length ≤ 1000000000) (hBw : B ≤ w.heap.size) :
    Calls Tryd.prog 35 #[.pointer (some ⟨g, 0, none⟩), .string (ofL s)] w fun e w' =>
      e = .returned (.tuple #[.int .i64 s.length, .nilIface]) ∧ Bld T B g rest (bs ++ s) w' ∧ Below B w w' ∧ Spare g w w' := by
  obtain ⟨i0, hi, hz0, hz1, hz2⟩ := info_parts byte_info
  go_enter Tryd.func35, Tryd.ntmps35
  go_wp2_with (go_at_call 40; refine (copyCheck_any T n B g hT rest bs _ h hn).mono ?_)
  rintro e w1 ⟨rfl, h1, hb1, hs1⟩
  have hlt := h1.lt
  obtain ⟨hB, v, hbk, hown, hne⟩ := h1
  have c0 : w1.cell? ⟨g, 0, none⟩ = some (.pointer (some ⟨g, 0, none⟩)) := by rw [Lib.cell_of_heap hbk]; rfl
  have c1 : w1.cell? ⟨g, 1, none⟩ = some v := by rw [Lib.cell_of_heap hbk]; rfl
  have HN := Lib.hid hn; clear hn
  go_wp2_with (at_builtin; refine Lib.wpList_append_own_string _ rfl _ _ 22 9 rfl B 5 i0 Tryd.underlying22 Tryd.underlying9 hi hz0 hz1 hz2 _ _ _ rfl hown (ofL s) rfl ?c3 ?c4 ?c5 ?_)
  case c3 => rw [ofL_size]; unfold maxLen; omega
  case c4 => rw [ofL_size]; omega
  case c5 => have := hb1.size; omega
  intro v' w2 hown' hgrow _
  have hb2 : w2.heap[g]? = some (.cells (.pointer (some ⟨g, 0, none⟩) :: v :: rest).toArray T (0, 0)) := by
    rw [hgrow.block g hlt (fun e => hne e.symm)]
    exact hbk
  have HB2 := Lib.hid hb2; clear hb2
  have d0 : w2.cell? ⟨g, 0, none⟩ = some (.pointer (some ⟨g, 0, none⟩)) := by rw [Lib.cell_of_heap HB2.out]; rfl
  have d1 : w2.cell? ⟨g, 1, none⟩ = some v := by rw [Lib.cell_of_heap HB2.out]; rfl
  have f1 : w2.frozen? ⟨g, 1, none⟩ = false := Lib.frozen_of_heap HB2.out 1
  obtain ⟨ao, cap, rfl⟩ := own_form hown'
  clear c0 c1 hbk
  have HO := Lib.hid hown'; clear hown'
  have HO1 := Lib.hid hown; clear hown
  go_wp2
  go_ret2
  refine ⟨rfl, .inr ?_, ?_, ?_⟩
  · refine BldP.put hB HB2.out (bs' := bs ++ s) ?_ hT.ne
    have := HO.out
    rw [strCells_ofL, ← Lib.byteCells_append] at this
    rw [List.length_append]; exact this
  · exact (hb1.grown hgrow (by have := hb1.size; omega) (fun k hk => (HO1.out.lt k hk).1)).setCell (p := ⟨g, 1, none⟩) hB _
  · refine (hs1.trans ⟨hgrow.size, fun k hk _ hn => hgrow.block k hk (fun e => ?_)⟩).set 1 _
    rcases HO1.out.2 with ⟨hv, _⟩ | ⟨q, cap', cur, hv, _, hq, _⟩
    · rw [hv] at e; simp [Value.ownBlock] at e
    · rw [hv] at e; simp [Value.ownBlock] at e
      rw [e] at hn; exact hn _ _ hq
set_option maxRecDepth 100000 in
set_option maxHeartbeats 1000000 in
theorem len_any (T B g : Nat) (rest : List Value) (bs : Bs) (w : World) (h : Bld T B g rest bs w) :
    Calls Tryd.prog 43 #[.pointer (some ⟨g, 0, none⟩)] w fun e w' => e = .returned (.int .i64 bs.length) ∧ w = w' := by
  obtain ⟨p, hB, v, hbk, hown, hne⟩ := h.any
  have c1 : w.cell? ⟨g, 1, none⟩ = some v := by rw [Lib.cell_of_heap hbk]; rfl
  obtain ⟨ao, cap, rfl⟩ := own_form hown
  clear hbk hown h
  go_enter Tryd.func43, Tryd.ntmps43
  go_wp2
  go_ret
  exact ⟨rfl, rfl⟩
theorem unsafeString_none (W : World) (q : Option Addr) : (Builtin.unsafeString_ #[72, 3] 9 #[.pointer q, .int .i64 0]).run Tryd.prog W = .ok (.string .empty) W :=
  Lib.run_unsafeString_none W _ _ _ q
set_option maxRecDepth 100000 in
set_option maxHeartbeats 2000000 in
theorem string_any (T B g : Nat) (rest : List Value) (bs : Bs) (w : World) (h : Bld T B g rest bs w) (hBw : B ≤ w.heap.size) :
    Calls Tryd.prog 22 #[.pointer (some ⟨g, 0, none⟩)] w fun e w' => e = .returned (.string (ofL bs)) ∧ Below B w w' := by
  have hgl := h.lt
  obtain ⟨p, hB, v, hbk, hown, hne⟩ := h.any
  clear h
  have HBK := Lib.hid hbk
  have hbk' : w.drew.heap[g]? = some (.cells (p :: v :: rest).toArray T (0, 0)) := hbk
  rcases hown.2 with ⟨rfl, h0⟩ | ⟨k, cap, cur, rfl, hkB, hk, hnc, hcm, hcs, htake⟩
  · have hbs : bs = [] := List.eq_nil_of_length_eq_zero h0
    subst hbs
    have hUS := unsafeString_none
    have c1 : w.drew.cell? ⟨g, 1, none⟩ = some (.slice none 0 0) := by rw [Lib.cell_of_heap hbk']; rfl
    have hSD : (Builtin.unsafeSliceData_ #[22] 72 #[.slice none 0 0]).run Tryd.prog w.drew = .ok (.pointer none) w.drew := rfl
    clear hbk hbk' hown
    go_enter Tryd.func22, Tryd.ntmps22
    go_wp2
    go_region
    all_goals (go_wp2; go_ret; exact ⟨rfl, Below.drew (Below.refl B w)⟩)
  · by_cases h0 : bs = []
    · subst h0
      have hUS := unsafeString_none
      have c1 : w.drew.cell? ⟨g, 1, none⟩ = some (.slice (some ⟨k, 0, none⟩) 0 cap) := by rw [Lib.cell_of_heap hbk']; rfl
      by_cases hc0 : cap = 0
      · subst hc0
        have hSD : (Builtin.unsafeSliceData_ #[22] 72 #[.slice (some ⟨k, 0, none⟩) 0 0]).run Tryd.prog w.drew = .ok (.pointer (some ⟨w.drew.heap.size, 0, none⟩)) (w.drew.alloc (.view ⟨k, 0, none⟩ 5)) :=
          Lib.run_unsafeSliceData_zero w.drew _ _ 5 Tryd.underlying72 ⟨k, 0, none⟩ 0 (5, cur.size) (by have hg' : w.drew.heap[k]? = some (.cells cur 5 (0, 0)) := hk; simp [World.shape?, hg'])
        have c2 : (w.drew.alloc (.view ⟨k, 0, none⟩ 5)).cell? ⟨g, 1, none⟩ = some (.slice (some ⟨k, 0, none⟩) 0 0) := by
          have : (w.drew.alloc (.view ⟨k, 0, none⟩ 5)).heap[g]? = _ := (Lib.alloc_old w.drew _ g hgl).trans hbk'
          rw [Lib.cell_of_heap this]; rfl
        have c3 : (w.alloc (.view ⟨k, 0, none⟩ 5)).drew.cell? ⟨g, 1, none⟩ = some (.slice (some ⟨k, 0, none⟩) 0 0) := c2
        have c4 : w.cell? ⟨g, 1, none⟩ = some (.slice (some ⟨k, 0, none⟩) 0 0) := c1
        clear hbk hbk' hown hk
        go_enter Tryd.func22, Tryd.ntmps22
        go_wp2
        go_region
        all_goals (go_wp2; go_ret; exact ⟨rfl, (Below.drew (Below.refl B w)).alloc hBw _⟩)
      · have hSD : (Builtin.unsafeSliceData_ #[22] 72 #[.slice (some ⟨k, 0, none⟩) 0 cap]).run Tryd.prog w.drew = .ok (.pointer (some ⟨k, 0, none⟩)) w.drew :=
          Lib.run_unsafeSliceData_row _ _ _ _ _ _ hc0
        clear hbk hbk' hown hk hc0 hcs htake hnc
        go_enter Tryd.func22, Tryd.ntmps22
        go_wp2
        go_region
        all_goals (go_wp2; go_ret; exact ⟨rfl, Below.drew (Below.refl B w)⟩)
    · have hl0 : bs.length ≠ 0 := by simpa using h0
      have c1 : w.drew.cell? ⟨g, 1, none⟩ = some (.slice (some ⟨k, 0, none⟩) bs.length cap) := by rw [Lib.cell_of_heap hbk']; rfl
      have hSD : (Builtin.unsafeSliceData_ #[22] 72 #[.slice (some ⟨k, 0, none⟩) bs.length cap]).run Tryd.prog w.drew = .ok (.pointer (some ⟨k, 0, none⟩)) w.drew :=
        Lib.run_unsafeSliceData_row _ _ _ _ _ _ (by omega)
      have hUS : (Builtin.unsafeString_ #[72, 3] 9 #[.pointer (some ⟨k, 0, none⟩), .int .i64 bs.length]).run Tryd.prog w.drew = .ok (.string ⟨bs.toArray⟩) (w.drew.freeze ⟨k, 0, none⟩ bs.length) := by
        refine Lib.run_unsafeString_row w.drew _ _ _ 5 Tryd.underlying72 cells_byte k cur.size (by have hg' : w.drew.heap[k]? = some (.cells cur 5 (0, 0)) := hk; simp [World.shape?, hg']) bs h0 (by omega) (by unfold maxLen at hcm; omega) ?_
        intro j x hx
        have := hown.cells (g := k) rfl j (.int .u8 x.toNat) (by simp [Lib.byteCells, hx])
        exact this
      clear hbk hbk' hown hk hcs htake hnc
      go_enter Tryd.func22, Tryd.ntmps22
      go_wp2
      go_region
      all_goals (go_wp2; go_ret; exact ⟨rfl, Lib.below_freeze (Below.drew (Below.refl B w)) (p := ⟨k, 0, none⟩) hkB _⟩)
end Go.Proofs.YtpomgledekkjjaaDoor
