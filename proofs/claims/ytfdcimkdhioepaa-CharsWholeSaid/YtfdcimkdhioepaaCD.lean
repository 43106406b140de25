/-
  WALKS of chapter 1: chars.around.
-/
import Derived.Test.YtfdcimkdhioepaaCC
namespace Go.Proofs.Ytfdcimkdhioepaa
open Go.RowKit Go.Shelf Mist
attribute [local go_sem] Oper.semAt_some ofL_extract ofL_size ofL_get ofL_bytes
def lineVal (p : Nat × Nat) : Value := .agg #[.int .i64 p.1, .int .i64 p.2]
theorem boxed_far {W : World} {B : Nat} {t : TypeId} {v : Value} (h : Boxed W B t v) {p : Addr} (hp : B ≠ p.block) (u : Value) : Boxed (W.setCell p u) B t v := Blk.far (cs := #[v]) h hp u
/-- A line and a number, stored into the results' boxes. -/
theorem store3 {w W : World} {n g1 g2 : Nat} {t1 t2 : TypeId} {x y v : Value} (bR : Blk W g1 t1 #[x, y]) (bK : Boxed W g2 t2 v) (hne : g1 ≠ g2) (hB : Below n w W) (h1 : n ≤ g1) (h2 : n ≤ g2) (a b c : Value) :
    KeepsOthers W (((W.setCell ⟨g1, 0, none⟩ a).setCell ⟨g1, 1, none⟩ b).setCell ⟨g2, 0, none⟩ c).drew ∧ Blk (((W.setCell ⟨g1, 0, none⟩ a).setCell ⟨g1, 1, none⟩ b).setCell ⟨g2, 0, none⟩ c).drew g1 t1 #[a, b] ∧
      Boxed (((W.setCell ⟨g1, 0, none⟩ a).setCell ⟨g1, 1, none⟩ b).setCell ⟨g2, 0, none⟩ c).drew g2 t2 c ∧ Below n w (((W.setCell ⟨g1, 0, none⟩ a).setCell ⟨g1, 1, none⟩ b).setCell ⟨g2, 0, none⟩ c).drew := by
  refine ⟨((KeepsOthers.setCell _ _ _).trans (KeepsOthers.setCell _ _ _)).trans ((KeepsOthers.setCell _ _ _).trans (KeepsOthers.drew _)), ?_, ?_, ?_⟩
  · exact (((bR.set_ 0 a).set_ 1 b).far (p := ⟨g2, 0, none⟩) hne c).drew
  · exact (boxed_far (boxed_far bK (p := ⟨g1, 0, none⟩) (Ne.symm hne) a) (p := ⟨g1, 1, none⟩) (Ne.symm hne) b).set c
  · exact (((hB.setCell (p := ⟨g1, 0, none⟩) h1 a).setCell (p := ⟨g1, 1, none⟩) h1 b).setCell (p := ⟨g2, 0, none⟩) h2 c).drew
theorem store3n {w W : World} {n g1 g2 : Nat} {t1 t2 : TypeId} {x y v : Value} (bR : Blk W g1 t1 #[x, y]) (bK : Boxed W g2 t2 v) (hne : g1 ≠ g2) (hB : Below n w W) (h1 : n ≤ g1) (h2 : n ≤ g2) (a b c : Value) :
    KeepsOthers W (((W.setCell ⟨g1, 0, none⟩ a).setCell ⟨g1, 1, none⟩ b).setCell ⟨g2, 0, none⟩ c) ∧ Blk (((W.setCell ⟨g1, 0, none⟩ a).setCell ⟨g1, 1, none⟩ b).setCell ⟨g2, 0, none⟩ c) g1 t1 #[a, b] ∧
      Boxed (((W.setCell ⟨g1, 0, none⟩ a).setCell ⟨g1, 1, none⟩ b).setCell ⟨g2, 0, none⟩ c) g2 t2 c ∧ Below n w (((W.setCell ⟨g1, 0, none⟩ a).setCell ⟨g1, 1, none⟩ b).setCell ⟨g2, 0, none⟩ c) := by
  refine ⟨((KeepsOthers.setCell _ _ _).trans (KeepsOthers.setCell _ _ _)).trans (KeepsOthers.setCell _ _ _), ?_, ?_, ?_⟩
  · exact ((bR.set_ 0 a).set_ 1 b).far (p := ⟨g2, 0, none⟩) hne c
  · exact (boxed_far (boxed_far bK (p := ⟨g1, 0, none⟩) (Ne.symm hne) a) (p := ⟨g1, 1, none⟩) (Ne.symm hne) b).set c
  · exact ((hB.setCell (p := ⟨g1, 0, none⟩) h1 a).setCell (p := ⟨g1, 1, none⟩) h1 b).setCell (p := ⟨g2, 0, none⟩) h2 c
structure AroundI (s : Bs) (at_ : Int) (w : World) (pre : List (LineIn s)) (W : World) : Prop where
  hp : ∀ p ∈ pre.map (·.1), ((p.2 : Nat) : Int) < at_
  bA : Boxed W w.heap.size 3 (.int .i64 at_)
  bR : Blk W (w.heap.size + 1) 63 #[.int .i64 0, .int .i64 0]
  bK : Boxed W (w.heap.size + 1 + 1) 3 (.int .i64 0)
  bN : Boxed W (w.heap.size + 1 + 1 + 1) 3 (.int .i64 (pre.length : Nat))
  bS : Boxed W (w.heap.size + 1 + 1 + 1 + 1) 9 (.string (ofL s))
  bel : Below w.heap.size w W
structure AroundX (s : Bs) (at_ : Int) (w : World) (c : Code) (pre : List (LineIn s)) (W : World) : Prop where
  jump : c = .ret
  hit : ∃ (l : List (LineIn s)) (x : LineIn s), pre = l ++ [x] ∧ (∀ p ∈ l.map (·.1), ((p.2 : Nat) : Int) < at_) ∧ at_ ≤ ((x.1.2 : Nat) : Int) ∧ Blk W (w.heap.size + 1) 63 #[.int .i64 x.1.1, .int .i64 x.1.2] ∧ Boxed W (w.heap.size + 1 + 1) 3 (.int .i64 ((l.length : Int) + 1))
  bel : Below w.heap.size w W
set_option maxRecDepth 100000 in
set_option maxHeartbeats 2000000 in
theorem around_any (s : Bs) (at_ : Int) (w : World) (hl : s.length ≤ 100000000) :
    Calls Try.prog 46 #[.string (ofL s), .int .i64 at_] w fun e w' => e = .returned (.tuple #[lineVal (aroundOf s at_).1, .int .i64 (aroundOf s at_).2]) ∧ Below w.heap.size w w' := by
  refine (callsIn_wide (n := 3)).1 ?_
  refine callsIn_of_wp_marks Try.func46 rfl trivial ?_ rfl
  simp only [Try.ntmps46, List.size_toArray, List.length_cons, List.length_nil, Nat.reduceAdd, Nat.reduceSub, Array.replicate_succ, Array.replicate_zero, List.push_toArray, List.append_toArray, List.nil_append, List.cons_append]
  gi_wp2_with (first
    | (refine ⟨trivial, ?_⟩; gi_at_call 43; refine (lines_in Fence.wide _ trivial rfl _ _).mono ?_; rintro e w' ⟨rfl, rfl⟩))
  have bA : Boxed (w.alloc (.cells #[.int .i64 at_] 3)) w.heap.size 3 (.int .i64 at_) := Boxed.new w _ _
  have bR := Blk.new (w.alloc (.cells #[.int .i64 at_] 3)) 63 #[.int .i64 0, .int .i64 0]
  have bK := Boxed.new ((w.alloc (.cells #[.int .i64 at_] 3)).alloc (.cells #[.int .i64 0, .int .i64 0] 63)) 3 (.int .i64 0)
  have bN := Boxed.new (((w.alloc (.cells #[.int .i64 at_] 3)).alloc (.cells #[.int .i64 0, .int .i64 0] 63)).alloc (.cells #[.int .i64 0] 3)) 3 (.int .i64 0)
  have bS := Boxed.new ((((w.alloc (.cells #[.int .i64 at_] 3)).alloc (.cells #[.int .i64 0, .int .i64 0] 63)).alloc (.cells #[.int .i64 0] 3)).alloc (.cells #[.int .i64 0] 3)) 9 (.string (ofL s))
  have bA := (((bA.alloc (.cells #[.int .i64 0, .int .i64 0] 63)).alloc (.cells #[.int .i64 0] 3)).alloc (.cells #[.int .i64 0] 3)).alloc (.cells #[.string (ofL s)] 9)
  have bR := ((bR.alloc (.cells #[.int .i64 0] 3)).alloc (.cells #[.int .i64 0] 3)).alloc (.cells #[.string (ofL s)] 9)
  have bK := (bK.alloc (.cells #[.int .i64 0] 3)).alloc (.cells #[.string (ofL s)] 9)
  have bN := bN.alloc (.cells #[.string (ofL s)] 9)
  have hB0 : Below w.heap.size w (((((w.alloc (.cells #[.int .i64 at_] 3)).alloc (.cells #[.int .i64 0, .int .i64 0] 63)).alloc (.cells #[.int .i64 0] 3)).alloc (.cells #[.int .i64 0] 3)).alloc (.cells #[.string (ofL s)] 9)) :=
    (((((Below.refl _ w).alloc (Nat.le_refl _) _).alloc (by simp) _).alloc (by simp; omega) _).alloc (by simp; omega) _).alloc (by simp; omega) _
  simp only [World.size_alloc] at bR bK bN bS
  obtain ⟨W0, hW0⟩ : ∃ W0, (((((w.alloc (.cells #[.int .i64 at_] 3)).alloc (.cells #[.int .i64 0, .int .i64 0] 63)).alloc (.cells #[.int .i64 0] 3)).alloc (.cells #[.int .i64 0] 3)).alloc (.cells #[.string (ofL s)] 9)) = W0 := ⟨_, rfl⟩
  have hsz : W0.heap.size = w.heap.size + 5 := by rw [← hW0]; simp
  rw [hW0] at bA bR bK bN bS hB0 ⊢
  clear hW0
  refine wpIn_rangeFunc_ownH rfl (by omega) (gf := 63) (lb := #[.pointer (some ⟨w.heap.size + 1 + 1 + 1 + 1, 0, none⟩)]) rfl trivial (enters_of Try.func63 (by kernel_rfl) rfl)
    (lines_stops Fence.wide _ trivial rfl (by omega) (w.heap.size + 1 + 1 + 1 + 1) s hl W0 (by omega) bS.cell) keepsBox_t keepsBox_b (Below.refl _ _) (fun _ => rfl)
    (AroundI s at_ w) (AroundX s at_ w)
    (fun q W W' row hs hg' hr => ⟨hs.hp, blk_kept hs.bA hg' hr, blk_kept hs.bR hg' hr, blk_kept hs.bK hg' hr, blk_kept hs.bN hg' hr, blk_kept hs.bS hg' hr, ownFrom_below (β := Unit) (w₀ := w) (by omega) (by omega) () W W' row hs.bel hg' hr⟩)
    (fun c q W W' row hs hg' hr => by
      obtain ⟨l, x, h2, h3, h4, h5, h6⟩ := hs.hit
      exact ⟨hs.jump, ⟨l, x, h2, h3, h4, blk_kept h5 hg' hr, blk_kept h6 hg' hr⟩, ownFrom_below (β := Unit) (w₀ := w) (by omega) (by omega) () W W' row hs.bel hg' hr⟩)
    ⟨by simp, bA, bR, bK, bN, bS, hB0⟩
    (fun x a' W => ∃ Bx, w.heap.size + 1 + 1 + 1 + 1 < Bx ∧ Blk W Bx 63 #[.int .i64 x.1.1, .int .i64 x.1.2] ∧ a' = { tmps := #[Value.string (ofL s), Value.int IntKind.i64 at_, undef, Value.pointer (some { block := w.heap.size, off := 0 }), Value.pointer (some { block := w.heap.size + 1, off := 0 }), Value.pointer (some { block := w.heap.size + 1 + 1, off := 0 }), Value.pointer (some { block := w.heap.size + 1 + 1 + 1, off := 0 }), .pointer (some ⟨Bx, 0, none⟩), Value.string (ofL s), Value.func (Fn.func 63) #[] #[Value.pointer (some { block := w.heap.size + 1 + 1 + 1 + 1, off := 0 })], .agg #[.int .i64 x.1.1, .int .i64 x.1.2], undef, undef, undef, undef, undef, undef, undef, undef, undef, undef], defers := [] })
    (fun x a' _ X Y row hs hg' hr => by obtain ⟨Bx, h1, h2, h3⟩ := hs; exact ⟨Bx, h1, blk_kept h2 hg' hr, h3⟩)
    ?assign ?body ?done ?stop
  case assign =>
    rintro l pre x W K ⟨hp, bA1, bR1, bK1, bN1, bS1, hB1⟩ hK
    have hs1 := bS1.lt
    dsimp only [encLine]
    gi_wp2
    exact hK _ _ ((KeepsOthers.alloc _ _).from _) ((KeepsBox.refl _ _).alloc _) ⟨hp, bA1.alloc _, bR1.alloc _, bK1.alloc _, bN1.alloc _, bS1.alloc _, hB1.alloc hB1.size _⟩ ⟨W.heap.size, hs1, Blk.new W _ _, rfl⟩
  case body =>
    rintro l pre x a' W hlw _ ⟨hp, bA1, bR1, bK1, bN1, bS1, hB1⟩ ⟨Bx, hBx, bX, rfl⟩ hpl
    have HP := Lib.hid hp; clear hp
    have cA := bA1.cell
    have cN := bN1.cell
    have fN := bN1.frozen
    have cK := bK1.cell
    have fK := bK1.frozen
    have fR : ∀ i, W.frozen? ⟨w.heap.size + 1, i, none⟩ = false := bR1.frozen
    have fR0 := fR 0
    have fR1 := fR 1
    clear fR
    have r0 : W.cell? ⟨w.heap.size + 1, 0, none⟩ = some (.int .i64 0) := bR1.cell 0
    have r1 : W.cell? ⟨w.heap.size + 1, 1, none⟩ = some (.int .i64 0) := bR1.cell 1
    have c0 : W.cell? ⟨Bx, 0, none⟩ = some (.int .i64 x.1.1) := bX.cell 0
    have c1 : W.cell? ⟨Bx, 1, none⟩ = some (.int .i64 x.1.2) := bX.cell 1
    obtain ⟨⟨a, b⟩, hab, hbl⟩ := x
    dsimp only at hab hbl c0 c1 bX ⊢
    obtain ⟨k, hk⟩ : ∃ k, k = pre.length := ⟨_, rfl⟩
    rw [← hk] at cN hpl
    have HKL := Lib.hid hk; clear hk
    by_cases hat : at_ ≤ (b : Int)
    · gi_wp2
      have bN2 := boxed_set' (u := .int .i64 (k + 1)) bN1 rfl
      have bX2 := bX.far (p := ⟨w.heap.size + 1 + 1 + 1, 0, none⟩) (by show Bx ≠ w.heap.size + 1 + 1 + 1; omega) (.int .i64 (k + 1))
      have bR2 := bR1.far (p := ⟨w.heap.size + 1 + 1 + 1, 0, none⟩) (by show w.heap.size + 1 ≠ w.heap.size + 1 + 1 + 1; omega) (.int .i64 (k + 1))
      have bK2 := bK1.other (B' := w.heap.size + 1 + 1 + 1) (by omega) (.int .i64 (k + 1))
      have hB2 := hB1.setCell (p := ⟨w.heap.size + 1 + 1 + 1, 0, none⟩) (by show _ ≤ w.heap.size + 1 + 1 + 1; omega) (.int .i64 (k + 1))
      have hK2 := KeepsOthers.setCell W ⟨w.heap.size + 1 + 1 + 1, 0, none⟩ (.int .i64 (k + 1))
      obtain ⟨W1, hW1⟩ : ∃ W1, W1 = W.setCell ⟨w.heap.size + 1 + 1 + 1, 0, none⟩ (.int .i64 (k + 1)) := ⟨_, rfl⟩
      rw [← hW1] at bN2 bX2 bR2 bK2 hB2 hK2 ⊢
      clear hW1 cA cN fN cK fK fR0 fR1 r0 r1 c0 c1
      have cN := bN2.cell
      have fN := bN2.frozen
      have cK := bK2.cell
      have fK := bK2.frozen
      have fR0 : W1.frozen? ⟨w.heap.size + 1, 0, none⟩ = false := bR2.frozen 0
      have fR1 : W1.frozen? ⟨w.heap.size + 1, 1, none⟩ = false := bR2.frozen 1
      have r0 : W1.cell? ⟨w.heap.size + 1, 0, none⟩ = some (.int .i64 0) := bR2.cell 0
      have r1 : W1.cell? ⟨w.heap.size + 1, 1, none⟩ = some (.int .i64 0) := bR2.cell 1
      have c0 : W1.cell? ⟨Bx, 0, none⟩ = some (.int .i64 a) := bX2.cell 0
      have c1 : W1.cell? ⟨Bx, 1, none⟩ = some (.int .i64 b) := bX2.cell 1
      gi_region
      all_goals gi_wp2
      all_goals
        obtain ⟨q1, q2, q3, q4⟩ := store3 bR2 bK2 (by omega) hB2 (by omega) (by omega) (.int .i64 a) (.int .i64 b) (.int .i64 (k + 1))
        refine ⟨(hK2.trans q1).from _, rfl, ⟨pre, ⟨(a, b), hab, hbl⟩, rfl, HP.out, hat, q2, ?_⟩, q4⟩
        rw [← HKL.out]; exact q3
    · gi_wp2
      refine ⟨(KeepsOthers.setCell _ _ _).from _, (KeepsBox.refl _ _).set_ _ _ (by show w.heap.size + 1 + 1 + 1 + 1 ≠ w.heap.size + 1 + 1 + 1; omega), ⟨?_, bA1.other (by omega) _, bR1.far (by show w.heap.size + 1 ≠ w.heap.size + 1 + 1 + 1; omega) _, bK1.other (by omega) _, boxed_set' bN1 ?_, bS1.other (by omega) _, hB1.setCell (p := ⟨w.heap.size + 1 + 1 + 1, 0, none⟩) (by show _ ≤ w.heap.size + 1 + 1 + 1; omega) _⟩⟩
      · intro p hp
        rw [List.map_append, List.mem_append] at hp
        rcases hp with hp | hp
        · exact HP.out p hp
        · simp at hp; subst hp; exact (by assumption : (b : Int) < at_)
      · rw [List.length_append, List.length_singleton, ← HKL.out]; rfl
  case done =>
    rintro D ys W hD hys ⟨hp, bA1, bR1, bK1, bN1, bS1, hB1⟩ hK
    have hlen : ys.length = (linesOf s).length := by rw [← hys, List.length_map]
    rw [hys] at hp
    have HX := Lib.hid (aroundOf_none s at_ (fun p hp' => by have := hp p hp'; omega)); clear hp
    rw [hlen] at bN1
    clear hys
    have cN := bN1.cell
    have cK := bK1.cell
    have fK := bK1.frozen
    have fR0 : W.frozen? ⟨w.heap.size + 1, 0, none⟩ = false := bR1.frozen 0
    have fR1 : W.frozen? ⟨w.heap.size + 1, 1, none⟩ = false := bR1.frozen 1
    have r0 : W.cell? ⟨w.heap.size + 1, 0, none⟩ = some (.int .i64 0) := bR1.cell 0
    have r1 : W.cell? ⟨w.heap.size + 1, 1, none⟩ = some (.int .i64 0) := bR1.cell 1
    gi_wp2
    gi_region
    all_goals gi_wp2
    all_goals
      obtain ⟨hko, b1, b2, b3⟩ := store3 bR1 bK1 (by omega) hB1 (by omega) (by omega) (.int .i64 0) (.int .i64 0) (.int .i64 ((linesOf s).length : Nat))
      have hK' := hko.same D _ hK rfl
      refine ⟨by simp, .inl ⟨_, _, rfl, run_takeDeferred hK', ?_⟩⟩
      have k0 := cell_kept (b1.cell 0) (grownBy_putObj' _ D (.deferred none)) (fun r e => by cases e; exact ⟨_, hK', rfl⟩)
      have k1 := cell_kept (b1.cell 1) (grownBy_putObj' _ D (.deferred none)) (fun r e => by cases e; exact ⟨_, hK', rfl⟩)
      have k2 := cell_kept b2.cell (grownBy_putObj' _ D (.deferred none)) (fun r e => by cases e; exact ⟨_, hK', rfl⟩)
      refine ⟨.tuple #[lineVal (0, 0), .int .i64 ((linesOf s).length : Nat)], ?_, ?_, b3.trans (belowK_b (w := w) (Nat.le_refl _) _ D _ _ (by omega) hK' rfl rfl)⟩
      · simp [results, Try.f46, go_sem, k0, k1, k2, lineVal]
      · rw [HX.out]
  case stop =>
    rintro D c pre W hD hpre ⟨rfl, ⟨l, x, rfl, h3, h4, h5, h6⟩, h7⟩ hK
    have HX := Lib.hid (aroundOf_hit s at_ (l.map (·.1)) x.1 (fun p hp' => by have := h3 p hp'; omega) h4 (by simpa using hpre))
    gi_wp2
    refine ⟨by simp, .inl ⟨_, _, rfl, run_takeDeferred hK, ?_⟩⟩
    have k0 := cell_kept (h5.cell 0) (grownBy_putObj' _ D (.deferred none)) (fun r e => by cases e; exact ⟨_, hK, rfl⟩)
    have k1 := cell_kept (h5.cell 1) (grownBy_putObj' _ D (.deferred none)) (fun r e => by cases e; exact ⟨_, hK, rfl⟩)
    have k2 := cell_kept h6.cell (grownBy_putObj' _ D (.deferred none)) (fun r e => by cases e; exact ⟨_, hK, rfl⟩)
    refine ⟨.tuple #[lineVal x.1, .int .i64 ((l.length : Int) + 1)], ?_, ?_, h7.trans (belowK_b (w := w) (Nat.le_refl _) _ D _ _ (by omega) hK rfl rfl)⟩
    · simp [results, Try.f46, go_sem, k0, k1, k2, lineVal]
    · rw [HX.out]; simp
end Go.Proofs.Ytfdcimkdhioepaa
