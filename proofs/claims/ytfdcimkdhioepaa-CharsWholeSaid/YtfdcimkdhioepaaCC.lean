/-
  WALKS of chapter 1: chars.Widest.
-/
import Derived.Test.YtfdcimkdhioepaaWords
import Derived.Test.YtfdcimkdhioepaaCB
namespace Go.Proofs.Ytfdcimkdhioepaa
open Go.RowKit Go.Shelf Mist
attribute [local go_sem] Oper.semAt_some ofL_extract ofL_size ofL_get ofL_bytes
theorem bdrewN {B : Nat} {a w : World} (h : Below B a w) (n : Nat) : Below B a (w.drewN n) := h.trans ⟨rfl, rfl, rfl, Nat.le_refl _, fun _ _ => rfl⟩
theorem cell_new_at (W : World) {g : Nat} (h : W.heap.size = g) (v : Value) (t : TypeId) : (W.alloc (.cells #[v] t)).cell? ⟨g, 0, none⟩ = some v := by
  subst h; exact (Boxed.new W t v).cell
theorem chk1_any (s : Bs) (g c : Nat) (w : World) (hr : w.cell? ⟨g, 0, none⟩ = some (.string (ofL s))) (hl : s.length ≤ 100000000) :
    Calls Try.prog 41 #[.slice (some ⟨g, 0, none⟩) 1 c] w fun e w' => e = .returned (.int .i64 (check s).2) ∧ w = w' := by
  refine (chk_any [s] g c w (by simp) (fun k hk => ?_) (fun k hk => ?_)).mono ?_
  · obtain rfl : k = 0 := by simp at hk; omega
    exact hr
  · obtain rfl : k = 0 := by simp at hk; omega
    exact hl
  · rintro e w' ⟨rfl, rfl⟩
    refine ⟨?_, rfl⟩
    unfold errAll
    split
    · rfl
    · rename_i h; simp at h; rw [h]; rfl
theorem two_of {a b x y : Int} (h : a = x) (k : b = y) : Ending.returned (.tuple #[.int .i64 a, .int .i64 b]) = .returned (.tuple #[.int .i64 x, .int .i64 y]) := by rw [h, k]
theorem blk_kept {B b : Nat} {t : TypeId} {cs : Array Value} {W W' : World} {row : Option Nat} (hs : Blk W b t cs) (hg : W.grownBy W' row) (hr : ∀ r, row = some r → B ≤ r ∧ ∃ o : Obj, W.heap[r]? = some o ∧ o.isCells = false) : Blk W' b t cs := hs.grown hg (fun e => by
  obtain ⟨_, o, ho, hc⟩ := hr b e.symm
  unfold Blk at hs
  rw [hs] at ho
  cases ho
  cases hc)
theorem boxed_set' {W : World} {B : Nat} {t : TypeId} {v v' u : Value} (h : Boxed W B t v) (e : v' = u) : Boxed (W.setCell ⟨B, 0, none⟩ v') B t u := e ▸ h.set v'
theorem blk_own {w : World} (B : Nat) (t : TypeId) (cs : Array Value) : OwnFrom w.heap.size (fun (_ : Unit) W => Blk W B t cs) := fun _ W W' row hs hg hr => hs.grown hg (fun e => by
  obtain ⟨_, o, ho, hc⟩ := hr B e.symm
  unfold Blk at hs
  rw [hs] at ho
  cases ho
  cases hc)
set_option maxRecDepth 100000 in
set_option maxHeartbeats 2000000 in
theorem widest_any (s : Bs) (w : World) (hl : s.length ≤ 100000000) :
    Calls Try.prog 17 #[.string (ofL s)] w fun e w' => e = .returned (.tuple #[.int .i64 (widestOf s).1, .int .i64 (widestOf s).2]) ∧ Below w.heap.size w w' := by
  refine (callsIn_wide (n := 3)).1 ?_
  by_cases hc : (check s).2 = 0
  case neg =>
    have hc' : (((check s).2 : Int) != 0) = true := by simp; omega
    have HC := Lib.hid (widestOf_bad s hc); clear hc
    refine callsIn_wide.2 ?_
    go_enter Try.func17, Try.ntmps17
    go_wp2_with (go_at_call 41; refine (chk1_any s _ _ _ (by first | simp | skip) hl).mono ?_; rintro e w' ⟨rfl, rfl⟩)
    (try simp only [Exit.inBlock, Exit.then])
    refine bodyPost_ret (v := .tuple #[.int .i64 0, .int .i64 (check s).2]) (by simp [results, Try.f17, go_sem]) rfl ?_
    exact ⟨two_of (by rw [HC.out]; rfl) (by rw [HC.out]), ((Below.refl _ _).alloc (Nat.le_refl _) _).alloc (by simp) _⟩
  have hc' : (((check s).2 : Int) != 0) = false := by simp [hc]
  have HC := Lib.hid (widestOf_ok s hc); clear hc
  refine callsIn_of_wp_marks Try.func17 rfl trivial ?_ rfl
  simp only [Try.ntmps17, List.size_toArray, List.length_cons, List.length_nil, Nat.reduceAdd, Nat.reduceSub, Array.replicate_succ, Array.replicate_zero, List.push_toArray, List.append_toArray, List.nil_append, List.cons_append]
  gi_wp2_with (first
    | (refine ⟨trivial, ?_⟩; gi_at_call 41; refine (callsIn_wide.2 (chk1_any s _ _ _ (by first | simp | skip) hl)).mono ?_; rintro e w' ⟨rfl, rfl⟩)
    | (refine ⟨trivial, ?_⟩; gi_at_call 43; refine (lines_in Fence.wide _ trivial rfl _ _).mono ?_; rintro e w' ⟨rfl, rfl⟩))
  have bN := ((Boxed.new w 3 (.int .i64 0)).alloc (.cells #[.string (ofL s)] 9)).alloc (.cells #[.string (ofL s)] 9)
  have bS := Boxed.new ((w.alloc (.cells #[.int .i64 0] 3)).alloc (.cells #[.string (ofL s)] 9)) 9 (.string (ofL s))
  simp only [World.size_alloc] at bS
  have hB0 : Below w.heap.size w (((w.alloc (.cells #[.int .i64 0] 3)).alloc (.cells #[.string (ofL s)] 9)).alloc (.cells #[.string (ofL s)] 9)) := (((Below.refl _ w).alloc (Nat.le_refl _) _).alloc (by simp) _).alloc (by simp; omega) _
  have hsz : (((w.alloc (.cells #[.int .i64 0] 3)).alloc (.cells #[.string (ofL s)] 9)).alloc (.cells #[.string (ofL s)] 9)).heap.size = w.heap.size + 3 := by simp
  obtain ⟨W0, hW0⟩ : ∃ W0, ((w.alloc (.cells #[.int .i64 0] 3)).alloc (.cells #[.string (ofL s)] 9)).alloc (.cells #[.string (ofL s)] 9) = W0 := ⟨_, rfl⟩
  rw [hW0] at bN bS hB0 hsz ⊢
  clear hW0
  refine wpIn_rangeFunc_ownH rfl (by omega) (gf := 63) (lb := #[.pointer (some ⟨w.heap.size + 1 + 1, 0, none⟩)]) rfl trivial (enters_of Try.func63 (by kernel_rfl) rfl)
    (lines_stops Fence.wide _ trivial rfl (by omega) (w.heap.size + 1 + 1) s hl W0 (by omega) bS.cell) keepsBox_t keepsBox_b (Below.refl _ _) (fun _ => rfl)
    (fun pre W => (Boxed W w.heap.size 3 (.int .i64 (wid (pre.map (·.1)) : Nat)) ∧ Boxed W (w.heap.size + 1 + 1) 9 (.string (ofL s))) ∧ Below w.heap.size w W)
    (fun _ _ _ => False)
    (OwnFrom.and (OwnFrom.and (Own.from (boxed_own _ _ _) _) (Own.from (boxed_own _ _ _) _)) (ownFrom_below (Nat.le_refl _) (by omega)))
    (fun _ _ _ _ _ hs _ _ => hs)
    ⟨⟨bN, bS⟩, hB0⟩
    (fun x a' W => ∃ Bx, w.heap.size + 1 + 1 < Bx ∧ Blk W Bx 63 #[.int .i64 x.1.1, .int .i64 x.1.2] ∧ a' = { tmps := #[Value.string (ofL s), undef, Value.pointer (some { block := w.heap.size, off := 0 }), Value.int IntKind.i64 0, Value.int IntKind.i64 ((check s).2 : Int), .pointer (some ⟨Bx, 0, none⟩), Value.string (ofL s), Value.slice (some { block := w.heap.size + 1, off := 0 }) 1 1, Value.int IntKind.i64 ((check s).2 : Int), Value.int IntKind.i64 ((check s).2 : Int), Value.bool false, undef, Value.string (ofL s), Value.func (Fn.func 63) #[] #[Value.pointer (some { block := w.heap.size + 1 + 1, off := 0 })], .agg #[.int .i64 x.1.1, .int .i64 x.1.2], undef, undef, undef, undef, undef, undef, undef, undef], defers := [] })
    (fun x a' _ X Y row hs hg hr => by obtain ⟨Bx, h1, h2, h3⟩ := hs; exact ⟨Bx, h1, blk_own Bx _ _ () X Y row h2 hg hr, h3⟩)
    ?assign ?body ?done ?stop
  case assign =>
    rintro l pre x W K ⟨⟨bN1, bS1⟩, hB1⟩ hK
    have hs1 := bS1.lt
    have hs2 := hB1.size
    dsimp only [encLine]
    gi_wp2
    exact hK _ _ ((KeepsOthers.alloc _ _).from _) ((KeepsBox.refl _ _).alloc _) ⟨⟨bN1.alloc _, bS1.alloc _⟩, hB1.alloc hB1.size _⟩ ⟨W.heap.size, hs1, Blk.new W _ _, rfl⟩
  case body =>
    rintro l pre x a' W hlw _ ⟨⟨bN1, bS1⟩, hB1⟩ ⟨Bx, hBx, bX, rfl⟩ _
    have cN := bN1.cell
    have fN := bN1.frozen
    have c0 : W.cell? ⟨Bx, 0, none⟩ = some (.int .i64 x.1.1) := bX.cell 0
    have c1 : W.cell? ⟨Bx, 1, none⟩ = some (.int .i64 x.1.2) := bX.cell 1
    obtain ⟨⟨a, b⟩, hab, hbl⟩ := x
    dsimp only at hab hbl c0 c1 ⊢
    have hwl := wid_le pre
    have hsn := wid_snoc (pre.map (·.1)) (a, b)
    have HSN := Lib.hid (show ((pre ++ [(⟨(a, b), hab, hbl⟩ : LineIn s)]).map (·.1)) = pre.map (·.1) ++ [(a, b)] by simp)
    rw [← HSN.out] at hsn
    have HS := Lib.hid hsn; clear hsn
    gi_wp2
    all_goals
      refine ⟨(KeepsOthers.setCell _ _ _).from _, (KeepsBox.refl _ _).set_ _ _ (by show w.heap.size + 1 + 1 ≠ w.heap.size; omega), ⟨⟨boxed_set' bN1 ?_, bS1.other (by omega) _⟩, hB1.setCell (p := ⟨w.heap.size, 0, none⟩) (Nat.le_refl _) _⟩⟩
      rw [HS.out]
      congr 1
      show _ = ((max (wid (pre.map (·.1))) (b - a) : Nat) : Int)
      omega
  case done =>
    rintro D ys W hD hys ⟨⟨bN1, _⟩, hB1⟩ hK
    rw [hys] at bN1
    have cN := bN1.cell
    have fN := bN1.frozen
    gi_wp2
    have hK' := (KeepsOthers.setCell W ⟨w.heap.size, 0, none⟩ (.int .i64 (wid (linesOf s) : Nat))).same D _ hK rfl
    refine ⟨by simp, .inl ⟨_, _, rfl, run_takeDeferred hK', ?_⟩⟩
    have hc5 := cell_kept (World.cell?_setCell_same' W ⟨w.heap.size, 0, none⟩ (.int .i64 (wid (linesOf s) : Nat)) (by rw [cN]; rfl)) (grownBy_putObj' _ D (.deferred none)) (fun r e => by cases e; exact ⟨_, hK', rfl⟩)
    refine ⟨.tuple #[.int .i64 (wid (linesOf s) : Nat), .int .i64 0], ?_, two_of (by rw [HC.out]) (by rw [HC.out]; rfl), (hB1.setCell (p := ⟨w.heap.size, 0, none⟩) (Nat.le_refl _) _).trans (belowK_b (w := w) (Nat.le_refl _) _ D _ _ (by omega) hK' rfl rfl)⟩
    simp [results, Try.f17, go_sem, hc5]
  case stop =>
    rintro D c pre W _ _ h _
    exact h.elim
end Go.Proofs.Ytfdcimkdhioepaa
