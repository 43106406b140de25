/-
  WALKS of chapter 1: chars.numbered.
-/
import Derived.Test.YtfdcimkdhioepaaCD
namespace Go.Proofs.Ytfdcimkdhioepaa
open Go.RowKit Go.Shelf Mist
attribute [local go_sem] Oper.semAt_some ofL_extract ofL_size ofL_get ofL_bytes
structure NumI (s : Bs) (k : Int) (w : World) (pre : List (LineIn s)) (W : World) : Prop where
  hp : ∀ i : Nat, i < pre.length → ((i : Int) + 1) ≠ k
  bA : Boxed W w.heap.size 3 (.int .i64 k)
  bR : Blk W (w.heap.size + 1) 63 #[.int .i64 0, .int .i64 0]
  bE : Boxed W (w.heap.size + 1 + 1) 23 (.int .i64 0)
  bN : Boxed W (w.heap.size + 1 + 1 + 1 + 1) 3 (.int .i64 (pre.length : Nat))
  bS : Boxed W (w.heap.size + 1 + 1 + 1 + 1 + 1) 9 (.string (ofL s))
  bel : Below w.heap.size w W
structure NumX (s : Bs) (k : Int) (w : World) (c : Code) (pre : List (LineIn s)) (W : World) : Prop where
  jump : c = .ret
  hit : ∃ (l : List (LineIn s)) (x : LineIn s), pre = l ++ [x] ∧ k = ((l.length : Nat) : Int) + 1 ∧ Blk W (w.heap.size + 1) 63 #[.int .i64 x.1.1, .int .i64 x.1.2] ∧ Boxed W (w.heap.size + 1 + 1) 23 (.int .i64 0)
  bel : Below w.heap.size w W
theorem num_of {a b : Value} {x y : Int} (h : a = b) (k : x = y) : Ending.returned (.tuple #[a, .int .i64 x]) = .returned (.tuple #[b, .int .i64 y]) := by rw [h, k]
set_option maxRecDepth 100000 in
set_option maxHeartbeats 2000000 in
theorem numbered_any (s : Bs) (k : Int) (w : World) (hl : s.length ≤ 100000000) :
    Calls Try.prog 47 #[.string (ofL s), .int .i64 k] w fun e w' => e = .returned (.tuple #[lineVal (numberedOf s k).1, .int .i64 (numberedOf s k).2]) ∧ Below w.heap.size w w' := by
  refine (callsIn_wide (n := 3)).1 ?_
  by_cases hc : (check s).2 = 0
  case neg =>
    have hc' : (((check s).2 : Int) != 0) = true := by simp; omega
    have HC := Lib.hid (numberedOf_bad s k hc); clear hc
    refine callsIn_wide.2 ?_
    go_enter Try.func47, Try.ntmps47
    go_wp2_with (go_at_call 41; refine (chk1_any s _ _ _ (by first | (simp; done) | exact cell_new_at _ (by simp) _ _) hl).mono ?_; rintro e w' ⟨rfl, rfl⟩)
    (try simp only [Exit.inBlock, Exit.then])
    refine bodyPost_ret (v := .tuple #[lineVal (0, 0), .int .i64 (check s).2]) ?_ rfl ?_
    · have k1 := ((Blk.new (w.alloc (.cells #[.int .i64 k] 3)) 63 #[.int .i64 0, .int .i64 0]).alloc (.cells #[.int .i64 ((check s).2 : Int)] 23)).alloc (.cells #[.string (ofL s)] 9)
      have k2 := (Blk.new ((w.alloc (.cells #[.int .i64 k] 3)).alloc (.cells #[.int .i64 0, .int .i64 0] 63)) 23 #[.int .i64 ((check s).2 : Int)]).alloc (.cells #[.string (ofL s)] 9)
      simp only [World.size_alloc] at k1 k2
      have c0 := k1.cell 0
      have c1 := k1.cell 1
      have c2 := k2.cell 0
      simp at c0 c1 c2
      simp [results, Try.f47, go_sem, c0, c1, c2, lineVal]
    · exact ⟨num_of (by rw [HC.out]) (by rw [HC.out]), ((((Below.refl _ _).alloc (Nat.le_refl _) _).alloc (by simp) _).alloc (by simp; omega) _).alloc (by simp; omega) _⟩
  have hc' : (((check s).2 : Int) != 0) = false := by simp [hc]
  have HC := Lib.hid hc; clear hc
  refine callsIn_of_wp_marks Try.func47 rfl trivial ?_ rfl
  simp only [Try.ntmps47, List.size_toArray, List.length_cons, List.length_nil, Nat.reduceAdd, Nat.reduceSub, Array.replicate_succ, Array.replicate_zero, List.push_toArray, List.append_toArray, List.nil_append, List.cons_append]
  gi_wp2_with (first
    | (refine ⟨trivial, ?_⟩; gi_at_call 41; refine (callsIn_wide.2 (chk1_any s _ _ _ (by first | (simp; done) | exact cell_new_at _ (by simp) _ _) hl)).mono ?_; rintro e w' ⟨rfl, rfl⟩)
    | (refine ⟨trivial, ?_⟩; gi_at_call 43; refine (lines_in Fence.wide _ trivial rfl _ _).mono ?_; rintro e w' ⟨rfl, rfl⟩))
  obtain ⟨W0, hW0⟩ : ∃ W0, ((((((w.alloc (.cells #[.int .i64 k] 3)).alloc (.cells #[.int .i64 0, .int .i64 0] 63)).alloc (.cells #[.int .i64 0] 23)).alloc (.cells #[.string (ofL s)] 9)).alloc (.cells #[.int .i64 0] 3)).alloc (.cells #[.string (ofL s)] 9)) = W0 := ⟨_, rfl⟩
  have bA : Boxed W0 w.heap.size 3 (.int .i64 k) := by
    rw [← hW0]; exact (((((Boxed.new w _ _).alloc _).alloc _).alloc _).alloc _).alloc _
  have bR : Blk W0 (w.heap.size + 1) 63 #[.int .i64 0, .int .i64 0] := by
    rw [← hW0]
    have h := ((((Blk.new (w.alloc (.cells #[.int .i64 k] 3)) 63 #[.int .i64 0, .int .i64 0]).alloc (.cells #[.int .i64 0] 23)).alloc (.cells #[.string (ofL s)] 9)).alloc (.cells #[.int .i64 0] 3)).alloc (.cells #[.string (ofL s)] 9)
    simpa only [World.size_alloc] using h
  have bE : Boxed W0 (w.heap.size + 1 + 1) 23 (.int .i64 0) := by
    rw [← hW0]
    have h := (((Boxed.new ((w.alloc (.cells #[.int .i64 k] 3)).alloc (.cells #[.int .i64 0, .int .i64 0] 63)) 23 (.int .i64 0)).alloc (.cells #[.string (ofL s)] 9)).alloc (.cells #[.int .i64 0] 3)).alloc (.cells #[.string (ofL s)] 9)
    simpa only [World.size_alloc] using h
  have bN : Boxed W0 (w.heap.size + 1 + 1 + 1 + 1) 3 (.int .i64 0) := by
    rw [← hW0]
    have h := (Boxed.new ((((w.alloc (.cells #[.int .i64 k] 3)).alloc (.cells #[.int .i64 0, .int .i64 0] 63)).alloc (.cells #[.int .i64 0] 23)).alloc (.cells #[.string (ofL s)] 9)) 3 (.int .i64 0)).alloc (.cells #[.string (ofL s)] 9)
    simpa only [World.size_alloc] using h
  have bS : Boxed W0 (w.heap.size + 1 + 1 + 1 + 1 + 1) 9 (.string (ofL s)) := by
    rw [← hW0]
    have h := Boxed.new (((((w.alloc (.cells #[.int .i64 k] 3)).alloc (.cells #[.int .i64 0, .int .i64 0] 63)).alloc (.cells #[.int .i64 0] 23)).alloc (.cells #[.string (ofL s)] 9)).alloc (.cells #[.int .i64 0] 3)) 9 (.string (ofL s))
    simpa only [World.size_alloc] using h
  have hB0 : Below w.heap.size w W0 := by
    rw [← hW0]; exact ((((((Below.refl _ w).alloc (Nat.le_refl _) _).alloc (by simp) _).alloc (by simp; omega) _).alloc (by simp; omega) _).alloc (by simp; omega) _).alloc (by simp; omega) _
  have hsz : W0.heap.size = w.heap.size + 6 := by rw [← hW0]; simp
  rw [hW0]
  clear hW0
  refine wpIn_rangeFunc_ownH rfl (by omega) (gf := 63) (lb := #[.pointer (some ⟨w.heap.size + 1 + 1 + 1 + 1 + 1, 0, none⟩)]) rfl trivial (enters_of Try.func63 (by kernel_rfl) rfl)
    (lines_stops Fence.wide _ trivial rfl (by omega) (w.heap.size + 1 + 1 + 1 + 1 + 1) s hl W0 (by omega) bS.cell) keepsBox_t keepsBox_b (Below.refl _ _) (fun _ => rfl)
    (NumI s k w) (NumX s k w)
    (fun q W W' row hs hg' hr => ⟨hs.hp, blk_kept hs.bA hg' hr, blk_kept hs.bR hg' hr, blk_kept hs.bE hg' hr, blk_kept hs.bN hg' hr, blk_kept hs.bS hg' hr, ownFrom_below (β := Unit) (w₀ := w) (by omega) (by omega) () W W' row hs.bel hg' hr⟩)
    (fun c q W W' row hs hg' hr => by
      obtain ⟨l, x, h2, h3, h5, h6⟩ := hs.hit
      exact ⟨hs.jump, ⟨l, x, h2, h3, blk_kept h5 hg' hr, blk_kept h6 hg' hr⟩, ownFrom_below (β := Unit) (w₀ := w) (by omega) (by omega) () W W' row hs.bel hg' hr⟩)
    ⟨by simp, bA, bR, bE, bN, bS, hB0⟩
    (fun x a' W => ∃ Bx, w.heap.size + 1 + 1 + 1 + 1 + 1 < Bx ∧ Blk W Bx 63 #[.int .i64 x.1.1, .int .i64 x.1.2] ∧ a' = { tmps := #[Value.string (ofL s), Value.int IntKind.i64 k, undef, Value.pointer (some { block := w.heap.size, off := 0 }), Value.pointer (some { block := w.heap.size + 1, off := 0 }), Value.pointer (some { block := w.heap.size + 1 + 1, off := 0 }), Value.int IntKind.i64 ((check s).2 : Int), Value.pointer (some { block := w.heap.size + 1 + 1 + 1 + 1, off := 0 }), .pointer (some ⟨Bx, 0, none⟩), Value.string (ofL s), Value.slice (some { block := w.heap.size + 1 + 1 + 1, off := 0 }) 1 1, Value.int IntKind.i64 ((check s).2 : Int), Value.int IntKind.i64 ((check s).2 : Int), Value.bool false, undef, undef, Value.string (ofL s), Value.func (Fn.func 63) #[] #[Value.pointer (some { block := w.heap.size + 1 + 1 + 1 + 1 + 1, off := 0 })], .agg #[.int .i64 x.1.1, .int .i64 x.1.2], undef, undef, undef, undef, undef, undef, undef], defers := [] })
    (fun x a' _ X Y row hs hg' hr => by obtain ⟨Bx, h1, h2, h3⟩ := hs; exact ⟨Bx, h1, blk_kept h2 hg' hr, h3⟩)
    ?assign ?body ?done ?stop
  case assign =>
    rintro l pre x W K ⟨hp, bA1, bR1, bE1, bN1, bS1, hB1⟩ hK
    have HP := Lib.hid hp; clear hp
    have hs1 := bS1.lt
    dsimp only [encLine]
    gi_wp2
    exact hK _ _ ((KeepsOthers.alloc _ _).from _) ((KeepsBox.refl _ _).alloc _) ⟨HP.out, bA1.alloc _, bR1.alloc _, bE1.alloc _, bN1.alloc _, bS1.alloc _, hB1.alloc hB1.size _⟩ ⟨W.heap.size, hs1, Blk.new W _ _, rfl⟩
  case body =>
    rintro l pre x a' W hlw _ ⟨hp, bA1, bR1, bE1, bN1, bS1, hB1⟩ ⟨Bx, hBx, bX, rfl⟩ hpl
    have HP := Lib.hid hp; clear hp
    have cA := bA1.cell
    have cN := bN1.cell
    have fN := bN1.frozen
    have cE := bE1.cell
    have fE := bE1.frozen
    have fR0 : W.frozen? ⟨w.heap.size + 1, 0, none⟩ = false := bR1.frozen 0
    have fR1 : W.frozen? ⟨w.heap.size + 1, 1, none⟩ = false := bR1.frozen 1
    have r0 : W.cell? ⟨w.heap.size + 1, 0, none⟩ = some (.int .i64 0) := bR1.cell 0
    have r1 : W.cell? ⟨w.heap.size + 1, 1, none⟩ = some (.int .i64 0) := bR1.cell 1
    have c0 : W.cell? ⟨Bx, 0, none⟩ = some (.int .i64 x.1.1) := bX.cell 0
    have c1 : W.cell? ⟨Bx, 1, none⟩ = some (.int .i64 x.1.2) := bX.cell 1
    obtain ⟨⟨a, b⟩, hab, hbl⟩ := x
    dsimp only at hab hbl c0 c1 bX ⊢
    obtain ⟨j, hj⟩ : ∃ j, j = pre.length := ⟨_, rfl⟩
    rw [← hj] at cN hpl
    have HKL := Lib.hid hj; clear hj
    by_cases hat : ((j : Int) + 1) = k
    · have hat' : (((j : Int) + 1) == k) = true := by simp [hat]
      have HAT := Lib.hid hat; clear hat
      gi_wp2
      obtain ⟨q1, q2, q3, q4⟩ := store3n (bR1.far (p := ⟨w.heap.size + 1 + 1 + 1 + 1, 0, none⟩) (by show w.heap.size + 1 ≠ w.heap.size + 1 + 1 + 1 + 1; omega) (.int .i64 (j + 1))) (boxed_far bE1 (p := ⟨w.heap.size + 1 + 1 + 1 + 1, 0, none⟩) (by show w.heap.size + 1 + 1 ≠ w.heap.size + 1 + 1 + 1 + 1; omega) (.int .i64 (j + 1))) (by omega)
        (hB1.setCell (p := ⟨w.heap.size + 1 + 1 + 1 + 1, 0, none⟩) (by show _ ≤ w.heap.size + 1 + 1 + 1 + 1; omega) (.int .i64 (j + 1))) (by omega) (by omega) (.int .i64 a) (.int .i64 b) (.int .i64 0)
      exact ⟨((KeepsOthers.setCell _ _ _).trans q1).from _, rfl, ⟨pre, ⟨(a, b), hab, hbl⟩, rfl, by rw [← HKL.out]; exact HAT.out.symm, q2, q3⟩, q4⟩
    · have hat' : (((j : Int) + 1) == k) = false := by simpa using hat
      have HAT := Lib.hid hat; clear hat
      gi_wp2
      refine ⟨(KeepsOthers.setCell _ _ _).from _, (KeepsBox.refl _ _).set_ _ _ (by show w.heap.size + 1 + 1 + 1 + 1 + 1 ≠ w.heap.size + 1 + 1 + 1 + 1; omega), ⟨?_, bA1.other (by omega) _, bR1.far (by show w.heap.size + 1 ≠ w.heap.size + 1 + 1 + 1 + 1; omega) _, bE1.other (by omega) _, boxed_set' bN1 ?_, bS1.other (by omega) _, hB1.setCell (p := ⟨w.heap.size + 1 + 1 + 1 + 1, 0, none⟩) (by show _ ≤ w.heap.size + 1 + 1 + 1 + 1; omega) _⟩⟩
      · intro i hi
        rw [List.length_append, List.length_singleton] at hi
        rcases Nat.lt_or_ge i pre.length with h | h
        · exact HP.out i h
        · have := HKL.out; have := HAT.out; omega
      · rw [List.length_append, List.length_singleton, ← HKL.out]; rfl
  case done =>
    rintro D ys W hD hys ⟨hp, bA1, bR1, bE1, bN1, bS1, hB1⟩ hK
    have hlen : ys.length = (linesOf s).length := by rw [← hys, List.length_map]
    have HX := Lib.hid (numberedOf_none s k HC.out (by
      rintro ⟨h1, h2⟩
      have := hp (k.toNat - 1) (by omega)
      omega)); clear hp
    clear hys hlen bN1
    have cE := bE1.cell
    have fE := bE1.frozen
    have fR0 : W.frozen? ⟨w.heap.size + 1, 0, none⟩ = false := bR1.frozen 0
    have fR1 : W.frozen? ⟨w.heap.size + 1, 1, none⟩ = false := bR1.frozen 1
    have r0 : W.cell? ⟨w.heap.size + 1, 0, none⟩ = some (.int .i64 0) := bR1.cell 0
    have r1 : W.cell? ⟨w.heap.size + 1, 1, none⟩ = some (.int .i64 0) := bR1.cell 1
    gi_wp2
    obtain ⟨hko, b1, b2, b3⟩ := store3n bR1 bE1 (by omega) hB1 (by omega) (by omega) (.int .i64 0) (.int .i64 0) (.int .i64 3)
    have hK' := hko.same D _ hK rfl
    refine ⟨by simp, .inl ⟨_, _, rfl, run_takeDeferred hK', ?_⟩⟩
    have k0 := cell_kept (b1.cell 0) (grownBy_putObj' _ D (.deferred none)) (fun r e => by cases e; exact ⟨_, hK', rfl⟩)
    have k1 := cell_kept (b1.cell 1) (grownBy_putObj' _ D (.deferred none)) (fun r e => by cases e; exact ⟨_, hK', rfl⟩)
    have k2 := cell_kept b2.cell (grownBy_putObj' _ D (.deferred none)) (fun r e => by cases e; exact ⟨_, hK', rfl⟩)
    refine ⟨.tuple #[lineVal (0, 0), .int .i64 3], ?_, ?_, b3.trans (belowK_b (w := w) (Nat.le_refl _) _ D _ _ (by omega) hK' rfl rfl)⟩
    · simp [results, Try.f47, go_sem, k0, k1, k2, lineVal]
    · rw [HX.out]; rfl
  case stop =>
    rintro D c pre W hD hpre ⟨rfl, ⟨l, x, rfl, h3, h5, h6⟩, h7⟩ hK
    have HX := Lib.hid (numberedOf_hit s (l.map (·.1)) x.1 HC.out (by simpa using hpre) k (by rw [List.length_map, h3]; simp))
    gi_wp2
    refine ⟨by simp, .inl ⟨_, _, rfl, run_takeDeferred hK, ?_⟩⟩
    have k0 := cell_kept (h5.cell 0) (grownBy_putObj' _ D (.deferred none)) (fun r e => by cases e; exact ⟨_, hK, rfl⟩)
    have k1 := cell_kept (h5.cell 1) (grownBy_putObj' _ D (.deferred none)) (fun r e => by cases e; exact ⟨_, hK, rfl⟩)
    have k2 := cell_kept h6.cell (grownBy_putObj' _ D (.deferred none)) (fun r e => by cases e; exact ⟨_, hK, rfl⟩)
    refine ⟨.tuple #[lineVal x.1, .int .i64 0], ?_, ?_, h7.trans (belowK_b (w := w) (Nat.le_refl _) _ D _ _ (by omega) hK rfl rfl)⟩
    · simp [results, Try.f47, go_sem, k0, k1, k2, lineVal]
    · rw [HX.out]; rfl
end Go.Proofs.Ytfdcimkdhioepaa
