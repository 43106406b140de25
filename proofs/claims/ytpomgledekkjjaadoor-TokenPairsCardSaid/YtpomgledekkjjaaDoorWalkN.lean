/-
  WALKS, fourteenth part: the writer of tokens.
-/
import Derived.Test.YtpomgledekkjjaaDoorWalkM
import Derived.Deep.RegionWith
import Derived.Test.YtpomgledekkjjaaDoorPlain4
namespace Go.Proofs.YtpomgledekkjjaaDoor
open Go.RowKit Mist
attribute [local go_sem] ofL_extract ofL_size ofL_get ofL_bytes ofL_append
theorem repeatL_one (c : Nat) : Lib.repeatL [32] c = spaces c := by
  induction c with
  | zero => rfl
  | succ n ih => simp [Lib.repeatL, spaces, List.replicate_succ] at ih ⊢; exact ih
theorem repeat_any (c : Nat) (w : World) (hc : c ≤ 1000000000) :
    Calls Tryd.prog 36 #[.string { data := #[32] }, .int .i64 c] w fun e w' => e = .returned (.string (ofL (spaces c))) ∧ Below w.heap.size w w' := by
  refine (Tryd.strings_Repeat ⟨#[32]⟩ c w (by omega) ?_).mono ?_
  · show 1 * c ≤ _; omega
  · rintro e w' ⟨rfl, hb⟩
    refine ⟨?_, hb⟩
    have : (ByteArray.mk #[32]).data.toList = [32] := rfl
    rw [this, repeatL_one]; rfl
theorem writerType : BldType 58 3 := ⟨by kernel_rfl, by decide⟩
theorem BldP.last {T B g : Nat} {p x : Value} {bs : Bs} {w : World} (h : BldP T B g p [x] bs w) (y : Value) : BldP T B g p [y] bs (w.setCell ⟨g, 2, none⟩ y) := by
  obtain ⟨hB, v, hb, hown, hne⟩ := h
  refine ⟨hB, v, ?_, ?_, hne⟩
  · simp [World.setCell, Array.getElem?_modify, hb]
  · refine hown.kept (row := some g) ⟨rfl, rfl, rfl, by simp [World.setCell], fun k _ hk => Below.heap_setCell _ _ _ _ (fun e => hk (by simp [e]))⟩ ?_
    exact Or.inr hne
theorem Bld.last {T B g : Nat} {x : Value} {bs : Bs} {w : World} (h : Bld T B g [x] bs w) (y : Value) : Bld T B g [y] bs (w.setCell ⟨g, 2, none⟩ y) := by
  rcases h with h | h
  · exact .inl (h.last y)
  · exact .inr (h.last y)
theorem Bld.cell2 {T B g : Nat} {x : Value} {bs : Bs} {w : World} (h : Bld T B g [x] bs w) : w.cell? ⟨g, 2, none⟩ = some x ∧ w.frozen? ⟨g, 2, none⟩ = false := by
  obtain ⟨p, _, v, hb, _⟩ := h.any
  exact ⟨by rw [Lib.cell_of_heap hb]; rfl, Lib.frozen_of_heap hb 2⟩
set_option maxRecDepth 100000 in
set_option maxHeartbeats 3200000 in
theorem put_any (B g c : Nat) (x : Value) (bs : Bs) (t : Tok) (w : World) (h : Bld 58 B g [x] bs w) (hBw : B ≤ w.heap.size) (hlen : bs.length + c + t.text.length ≤ 1000000000) :
    Calls Tryd.prog 21 #[.pointer (some ⟨g, 0, none⟩), .agg #[.int .u8 t.kind, .string (ofL t.text), .int .i64 t.at_], .int .i64 c] w fun e w' =>
      e = .returned (.tuple #[]) ∧ Bld 58 B g [.string (ofL t.text)] (bs ++ spaces c ++ t.text) w' ∧ Below B w w' := by
  have hgB : B ≤ g := by obtain ⟨p, hB, _⟩ := h.any; exact hB
  have H := Lib.hid h; clear h
  have hA : Bld 58 B g [x] bs (w.alloc (.cells #[.int .u8 t.kind, .string (ofL t.text), .int .i64 t.at_] 26)).drew :=
    H.out.below (((Below.refl _ _).alloc (Nat.le_refl _) _).drew)
  have HA := Lib.hid hA; clear hA
  have hsp : (spaces c).length = c := by simp [spaces]
  have HSP := Lib.hid hsp; clear hsp
  have hcl : c ≤ 1000000000 := by omega
  go_enter Tryd.func21, Tryd.ntmps21
  go_wp2_with fail
  go_region_with (first
    | (go_at_call 36; refine (repeat_any c _ hcl).mono ?_; rintro e w1 ⟨rfl, hb1⟩)
    | (go_at_call 35; refine (writeString_any _ 3 B g writerType [x] bs (spaces c) _ (HA.out.below hb1) rfl (by rw [HSP.out]; omega) (by have := hb1.size; simp at this; omega)).mono ?_; rintro e w2 ⟨rfl, hB2, hb2, hs2⟩))
  have hbox := heap_alloc_new w (.cells #[.int .u8 t.kind, .string (ofL t.text), .int .i64 t.at_] 26)
  have hz1 := hb1.size
  simp only [World.size_drew, World.size_alloc] at hz1
  have hbox1 : w1.heap[w.heap.size]? = some (.cells #[.int .u8 t.kind, .string (ofL t.text), .int .i64 t.at_] 26) := (hb1.block _ (by simp)).trans hbox
  have hgw : w.heap.size ≠ g := fun e => by have := H.out.lt; omega
  have hbox2 := hs2.cell hbox1 hgw (by decide)
  have d1 : w2.cell? ⟨w.heap.size, 1, none⟩ = some (.string (ofL t.text)) := by rw [Lib.cell_of_heap hbox2]; rfl
  have HBX := Lib.hid hbox2
  have HG := Lib.hid hgw
  clear hbox hbox1 hbox2 hgw
  have hz2 := hb2.size
  have HB2 := Lib.hid (hB2.below ((Below.refl _ _).drew))
  go_wp2_with fail
  go_region_held3 (fun w' => w'.cell? ⟨w.heap.size, 1, none⟩ = some (.string (ofL t.text))) (first | go_keep | (have hx := hs3.cell HBX.out HG.out (by decide); rw [Lib.cell_of_heap hx]; rfl))
    (first
    | (go_at_call 35; refine (writeString_any _ 3 B g writerType [x] (bs ++ spaces c) t.text _ HB2.out rfl (by rw [List.length_append, HSP.out]; omega) (by simp; omega)).mono ?_; rintro e w3 ⟨rfl, hB3, hb3, hs3⟩))
  have hx := hs3.cell HBX.out HG.out (by decide)
  have e1 : w3.cell? ⟨w.heap.size, 1, none⟩ = some (.string (ofL t.text)) := by rw [Lib.cell_of_heap hx]; rfl
  have hz3 := hb3.size
  obtain ⟨e2, f2⟩ := hB3.cell2
  clear d1 hx
  go_wp2
  go_end0
  have hb0 : Below B w w1 := (((Below.refl B w).alloc hBw _).drew).trans (hb1.mono (by simp; omega))
  exact ⟨rfl, hB3.last _, ((hb0.trans hb2).drew.trans hb3).setCell (p := ⟨g, 2, none⟩) hgB _⟩
set_option maxRecDepth 100000 in
set_option maxHeartbeats 3200000 in
theorem needs_any (T B g : Nat) (last : Bs) (bs : Bs) (t : Tok) (w : World) (hE : Env w) (h : Bld T B g [.string (ofL last)] bs w) (hlen : last.length + t.text.length ≤ 100000000) :
    Calls Tryd.prog 20 #[.pointer (some ⟨g, 0, none⟩), .agg #[.int .u8 t.kind, .string (ofL t.text), .int .i64 t.at_]] w fun e w' =>
      e = .returned (.bool (needB last t.text)) ∧ Below w.heap.size w w' := by
  have hlt := h.lt
  obtain ⟨c2, _⟩ := h.cell2
  clear h
  have HE := Lib.hid hE; clear hE
  have hA : (w.alloc (.cells #[.int .u8 t.kind, .string (ofL t.text), .int .i64 t.at_] 26)).cell? ⟨g, 2, none⟩ = some (.string (ofL last)) := by
    rw [World.cell?_alloc_lt _ _ _ hlt]; exact c2
  have hbox := heap_alloc_new w (.cells #[.int .u8 t.kind, .string (ofL t.text), .int .i64 t.at_] 26)
  have d1 : (w.alloc (.cells #[.int .u8 t.kind, .string (ofL t.text), .int .i64 t.at_] 26)).cell? ⟨w.heap.size, 1, none⟩ = some (.string (ofL t.text)) := by rw [Lib.cell_of_heap hbox]; rfl
  clear hbox
  cases hem : last.isEmpty
  · have hne : (!last.isEmpty) = true := by rw [hem]; rfl
    go_enter Tryd.func20, Tryd.ntmps20
    go_wp2_with fail
    go_region_held3 (fun w' => w'.cell? ⟨g, 2, none⟩ = some (.string (ofL last)) ∧ w'.cell? ⟨w.heap.size, 1, none⟩ = some (.string (ofL t.text)))
      (first | go_keep | exact ⟨(hb1.cell (p := ⟨g, 2, none⟩) (by simp; omega)).trans hA, (hb1.cell (p := ⟨w.heap.size, 1, none⟩) (by simp)).trans d1⟩)
      ((go_at_call 19; refine (glue_any last t.text _ (HE.out.alloc _).drew hlen).mono ?_; rintro e w1 ⟨rfl, hb1⟩))
    go_wp2
    go_ret
    exact ⟨ret_bool (by unfold needB; rw [hem]; rfl), (((Below.refl _ _).alloc (Nat.le_refl _) _).drew).trans (hb1.mono (by simp))⟩
  · have hne : (!last.isEmpty) = false := by rw [hem]; rfl
    go_enter Tryd.func20, Tryd.ntmps20
    go_wp2_with fail
    go_quiet (fail)
    go_wp2
    go_ret
    exact ⟨ret_bool (by unfold needB; rw [hem]; rfl), bdrewN ((Below.refl _ _).alloc (Nat.le_refl _) _) _⟩
end Go.Proofs.YtpomgledekkjjaaDoor
