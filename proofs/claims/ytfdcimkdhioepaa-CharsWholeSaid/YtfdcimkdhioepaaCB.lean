/-
  WALKS of chapter 1: chars.lines, and its iterator over any loop body.
-/
import Derived.Test.YtfdcimkdhioepaaCA
import Derived.Test.YtfdcimkdhioepaaCPlain1
import Derived.RangeFuncNested
import Derived.RangeFuncBound
import Derived.RangeFuncCalls
import Derived.RangeFuncLeaves
import Derived.Shelf.Abstract
import Derived.Shelf.RegionOpen
import Derived.OwnWalkIn
import Derived.TacticsInMore
import Derived.LoopNIn
import Derived.LoopIn
namespace Go.Proofs.Ytfdcimkdhioepaa
open Go.RowKit Go.Shelf Mist
attribute [local go_sem] Oper.semAt_some ofL_extract ofL_size ofL_get ofL_bytes
set_option maxHeartbeats 1000000 in
theorem lines_in (F : Fence) (n : Nat) (hf : F.fn 43) (hro : F.round = none) (s : Bs) (w : World) :
    CallsIn F n Try.prog 43 #[.string (ofL s)] w fun e w' => e = .returned (.func (.func 63) #[] #[.pointer (some ⟨w.heap.size, 0, none⟩)]) ∧ w' = w.alloc (.cells #[.string (ofL s)] 9) := by
  refine callsIn_of_wp Try.func43 rfl hf ?_ hro
  simp only [Try.ntmps43, List.size_toArray, List.length_cons, List.length_nil, Nat.reduceAdd, Nat.reduceSub, Array.replicate_succ, Array.replicate_zero, List.push_toArray, List.append_toArray, List.nil_append, List.cons_append]
  gi_wp2
  go_ret
  exact ⟨rfl, rfl⟩
/-- What a round keeps: the box of the text. -/
def KeepsBox (B : Nat) (W W' : World) : Prop := ∀ v, W.cell? ⟨B, 0, none⟩ = some v → W'.cell? ⟨B, 0, none⟩ = some v
theorem keepsBox_t {B : Nat} {A C D : World} (h : KeepsBox B A C) (k : KeepsBox B C D) : KeepsBox B A D := fun v hv => k v (h v hv)
theorem keepsBox_b {B n : Nat} (W : World) (l : Nat) (o o' : Obj) (_ : n ≤ l) (ho : W.heap[l]? = some o) (hc : o.isCells = false) (_ : o.isWalk = false) : KeepsBox B W (W.putObj l o') :=
  fun _ hv => cell_kept hv (grownBy_putObj' W l o') (fun r e => by cases e; exact ⟨o, ho, hc⟩)
theorem KeepsBox.below {B n : Nat} {W W' : World} (h : Below n W W') (hb : B < n) : KeepsBox B W W' := fun _ hv => (h.cell (p := ⟨B, 0, none⟩) hb).trans hv
theorem KeepsBox.refl (B : Nat) (W : World) : KeepsBox B W W := fun _ hv => hv
theorem KeepsBox.set_ {B : Nat} {W W' : World} (h : KeepsBox B W W') (p : Addr) (u : Value) (hp : B ≠ p.block) : KeepsBox B W (W'.setCell p u) := fun v hv => by
  rw [World.cell?_setCell_other W' p ⟨B, 0, none⟩ u (fun e => hp (by rw [e]))]; exact h v hv
theorem KeepsBox.alloc {B : Nat} {W W' : World} (h : KeepsBox B W W') (o : Obj) : KeepsBox B W (W'.alloc o) := fun v hv => cell_kept (h v hv) (World.grownBy_alloc W' o none) (fun r e => by cases e)
def encLine (p : Nat × Nat) : Array Value := #[.agg #[.int .i64 p.1, .int .i64 p.2]]
set_option maxRecDepth 100000 in
set_option maxHeartbeats 2000000 in
theorem lines1_in (F : Fence) (n : Nat) (h63 : F.fn 63) (hro : F.round = none) (hn : 1 ≤ n) (l B : Nat) (s : Bs) (hl : s.length ≤ 100000000) (J Jx : List (LineIn s) → World → Prop)
    (hY : ∀ pre x W, J pre W → pre.length < s.length + 1 → YieldAt F (n - 1) Try.prog l (encLine x.1) W fun e W' =>
      (e = .returned (.bool true) ∧ J (pre ++ [x]) W' ∧ KeepsBox B W W') ∨ (e = .returned (.bool false) ∧ Jx (pre ++ [x]) W'))
    (W : World) (hBs : W.cell? ⟨B, 0, none⟩ = some (.string (ofL s))) (h0 : J [] W) :
    CallsIn F n Try.prog 63 #[.func (.yield l) #[] #[], .pointer (some ⟨B, 0, none⟩)] W fun e W' => (∃ v, e = .returned v) ∧
      ((∃ ys : List (LineIn s), ys.map (·.1) = linesOf s ∧ J ys W') ∨ (∃ pre : List (LineIn s), pre.map (·.1) <+: linesOf s ∧ Jx pre W')) := by
  refine callsIn_of_wp Try.func63 rfl h63 ?_ hro
  simp only [Try.ntmps63, List.size_toArray, List.length_cons, List.length_nil, Nat.reduceAdd, Nat.reduceSub, Array.replicate_succ, Array.replicate_zero, List.push_toArray, List.append_toArray, List.nil_append, List.cons_append]
  gi_wp2
  gi_loopw [3, 7] (fun f i wr => ∃ (a k : Nat) (pre : List (LineIn s)), f = .int .i64 a ∧ i = .int .i64 k ∧ a ≤ k ∧ k ≤ s.length ∧ pre.length ≤ k ∧ pre.map (·.1) ++ linesFrom a k (s.drop k) = linesOf s ∧ J pre wr ∧ wr.cell? ⟨B, 0, none⟩ = some (.string (ofL s)))
    (fun _ i _ => s.length - (intOf i).toNat)
  case atStart => exact ⟨0, 0, [], rfl, rfl, Nat.le_refl _, Nat.zero_le _, Nat.zero_le _, rfl, h0, hBs⟩
  case round =>
    obtain ⟨a, k, pre, rfl, rfl, hak, hk, hpk, hln, hJ, hc⟩ := hrel
    have HLN := Lib.hid hln; clear hln
    by_cases hlt : k < s.length
    · by_cases h10 : gt s k = 10
      · have h10' : (((gt s k).toNat : Int) != 10) = false := by rw [h10]; rfl
        have HX := Lib.hid (linesFrom_feed s a k hlt h10); clear h10
        obtain ⟨fn, tmps, assign, body, hy, hR⟩ := hY pre ⟨(a, k), hak, hk⟩ wr hJ (by omega)
        dsimp only [encLine] at hy
        gi_wp2
        refine hR.mono ?_
        rintro e W3 (⟨rfl, hJ3, hk3⟩ | ⟨rfl, hJx3⟩)
        · gi_wp2
          go_roundw
          case rel => exact ⟨k + 1, k + 1, pre ++ [⟨(a, k), hak, hk⟩], by go_num, by go_num, Nat.le_refl _, by omega, by simp; omega, by rw [← HLN.out, HX.out]; simp, hJ3, hk3 _ hc⟩
          case measure => simp [intOf]; omega
        · gi_wp2
          refine bodyPost_ret (results_none rfl _ _ _) rfl ?_
          exact ⟨⟨_, rfl⟩, .inr ⟨pre ++ [⟨(a, k), hak, hk⟩], by rw [← HLN.out, HX.out]; exact ⟨linesFrom (k + 1) (k + 1) (s.drop (k + 1)), by simp⟩, hJx3⟩⟩
      · have h10' : (((gt s k).toNat : Int) != 10) = true := by
          rw [bne_iff_ne]; intro e
          exact h10 (UInt8.toNat_inj.1 (by have : (gt s k).toNat = 10 := by omega
                                           rw [this]; rfl))
        have HX := Lib.hid (linesFrom_other s a k hlt h10); clear h10
        gi_wp2
        go_roundw
        case rel => exact ⟨a, k + 1, pre, rfl, by go_num, by omega, by omega, by omega, by rw [← HX.out]; exact HLN.out, hJ, hc⟩
        case measure => simp [intOf]; omega
    · obtain rfl : k = s.length := by omega
      have HX := Lib.hid (linesFrom_end s a s.length (Nat.le_refl _))
      obtain ⟨fn, tmps, assign, body, hy, hR⟩ := hY pre ⟨(a, s.length), hak, hk⟩ wr hJ (by omega)
      dsimp only [encLine] at hy
      gi_wp2
      refine hR.mono ?_
      rintro e W3 (⟨rfl, hJ3, hk3⟩ | ⟨rfl, hJx3⟩)
      · gi_wp2
        go_end0
        exact ⟨⟨_, rfl⟩, .inl ⟨pre ++ [⟨(a, s.length), hak, hk⟩], by rw [← HLN.out, HX.out]; simp, hJ3⟩⟩
      · gi_wp2
        go_end0
        exact ⟨⟨_, rfl⟩, .inr ⟨pre ++ [⟨(a, s.length), hak, hk⟩], by rw [← HLN.out, HX.out]; simp, hJx3⟩⟩
/-- The iterator of a text: all of its lines, in order; or some first ones. -/
theorem lines_stops (F : Fence) (n : Nat) (h63 : F.fn 63) (hro : F.round = none) (hn : 1 ≤ n) (B : Nat) (s : Bs) (hl : s.length ≤ 100000000) (w : World) (hB : B < w.heap.size)
    (hc : w.cell? ⟨B, 0, none⟩ = some (.string (ofL s))) :
    SeqStopsK F n Try.prog 63 #[.pointer (some ⟨B, 0, none⟩)] (fun x : LineIn s => encLine x.1) (KeepsBox B) (fun ys => ys.map (·.1) = linesOf s) (fun pre => pre.map (·.1) <+: linesOf s) (s.length + 1) w := fun l J Jx W hW _ _ hY h0 => by
  have hc' := (hW.cell (p := ⟨B, 0, none⟩) hB).trans hc
  exact lines1_in F n h63 hro hn l B s hl J Jx hY W hc' h0
end Go.Proofs.Ytfdcimkdhioepaa
