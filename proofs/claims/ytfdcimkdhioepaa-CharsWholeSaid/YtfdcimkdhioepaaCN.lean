/-
  WALKS of chapter 1: chars.gap, strings.Cut, FieldsFunc at a text without great bytes; chars.Clean.
-/
import Derived.Test.YtfdcimkdhioepaaCM
import Derived.Test.YtfdcimkdhioepaaCPlain3
namespace Go.Proofs.Ytfdcimkdhioepaa
open Go.RowKit Go.Shelf Mist
attribute [local go_sem] Oper.semAt_some ofL_extract ofL_size ofL_get ofL_bytes
/-- The variable that strings.Index reads holds some number. -/
def CEnv (w : World) : Prop := 0 < w.heap.size ∧ ∃ m, w.cell? ⟨0, 0, none⟩ = some (.int .i64 m)
theorem CEnv.below {w w' : World} (h : CEnv w) (hb : Below w.heap.size w w') : CEnv w' := by
  obtain ⟨h0, m, hm⟩ := h
  exact ⟨Nat.lt_of_lt_of_le h0 hb.size, m, (hb.cell (p := ⟨0, 0, none⟩) h0).trans hm⟩
theorem cut_any (l : Bs) (w : World) (hE : CEnv w) (hl : l.length ≤ 100000000) :
    Calls Try.prog 49 #[.string (ofL l), .string ⟨#[35]⟩] w fun e w' => ∃ x y n, e = .returned (.tuple #[.string (ofL (cutB l)), x, y]) ∧ w' = w.drewN n := by
  obtain ⟨_, m, hm⟩ := hE
  refine (Try.strings_Cut (ofL l) ⟨#[35]⟩ m w (by rw [ofL_size]; omega) hm).mono ?_
  rintro e w' ⟨rfl, n, rfl⟩
  have h1 : (⟨(Lib.cut (ofL l).data.toList (⟨#[35]⟩ : ByteArray).data.toList).1.toArray⟩ : ByteArray) = ofL (cutB l) := by
    show (⟨(Lib.cut l [35]).1.toArray⟩ : ByteArray) = _
    rw [cut35]; rfl
  rw [h1]
  exact ⟨_, _, n, rfl, rfl⟩
set_option maxHeartbeats 400000 in
theorem cgap_any (x : Nat) (w : World) : Calls Try.prog 55 #[.int .i32 x] w fun e w' => e = .returned (.bool (gapR x)) ∧ ∃ q, w' = w.drewN q := by
  go_enter Try.func55, Try.ntmps55
  go_wp2
  all_goals
    go_ret
    refine ⟨ret_bool ?_, 0, rfl⟩
    unfold gapR
    rw [Bool.eq_iff_iff]
    simp <;> omega
theorem fields_any (l : Bs) (w : World) (ha : ∀ b ∈ l, b.toNat < 128) (hl : l.length ≤ 100000000) :
    Calls Try.prog 53 #[.string (ofL l), .func (.func 55) #[] #[]] w fun e w' => ∃ A, e = .returned (.slice (some ⟨A, 0, none⟩) (fldGo [] l).length (fldGo [] l).length) ∧ A < w'.heap.size ∧
      (∀ (j : Nat) x, (fldGo [] l)[j]? = some x → w'.cell? ⟨A, 0 + j, none⟩ = some (.string (ofL x))) ∧ Below w.heap.size w w' := by
  refine (Try.strings_FieldsFunc_runes 55 #[] (enters_of Try.func55 (by kernel_rfl) rfl) gapR (ofL l) w (by rw [ofL_size]; omega) ?_).mono ?_
  · intro W x _ _
    exact cgap_any x W
  · rintro e w' ⟨A, rfl, hA, hown, hb⟩
    have hf := fields_fld l ha
    have hlen : (Lib.goFieldsP gapR (ofL l)).length = (fldGo [] l).length := by rw [← hf, List.length_map]
    have hv : (Lib.goFieldsP gapR (ofL l)).map Value.string = (fldGo [] l).map (fun x => Value.string (ofL x)) := by
      rw [← hf, List.map_map]; rfl
    rw [hlen] at hown ⊢
    rw [hv] at hown
    refine ⟨A, rfl, (hown.lt A rfl).2, fun j x hx => ?_, hb⟩
    have := hown.cells (g := A) rfl j (.string (ofL x)) (by simp [hx])
    rw [Nat.zero_add]
    simpa [Addr.add_lit] using this
theorem join_any (xs : List Bs) (A : Nat) (w : World) (hc : ∀ (j : Nat) x, xs[j]? = some x → w.cell? ⟨A, 0 + j, none⟩ = some (.string (ofL x))) (hA : A < w.heap.size) (hlen : (Lib.join xs [32]).length ≤ 100000000) (hn : xs.length ≤ 100000000) :
    Calls Try.prog 52 #[.slice (some ⟨A, 0, none⟩) xs.length xs.length, .string ⟨#[32]⟩] w fun e w' => e = .returned (.string (ofL (Lib.join xs [32]))) ∧ Below w.heap.size w w' := by
  have hmm : (xs.map ofL).map (·.data.toList) = xs := by
    rw [List.map_map]; exact List.map_id' xs
  have h := Try.strings_Join A 0 xs.length (xs.map ofL) ⟨#[32]⟩ w (fun j x hx => by
    rw [List.getElem?_map, Option.map_eq_some_iff] at hx
    obtain ⟨y, hy, rfl⟩ := hx
    exact hc j y hy) hA (by rw [List.length_map]; omega) (by rw [List.length_map]; exact Nat.le_refl _) (by rw [hmm]; show (Lib.join xs [32]).length ≤ _; omega)
  rw [List.length_map, hmm] at h
  exact h
theorem bldP_kept {T B g b0 : Nat} {p : Value} {rest : List Value} {bs : Bs} {W W' : World} {row : Option Nat} (hs : BldP T B g p rest bs W) (hg : W.grownBy W' row) (hr : ∀ r, row = some r → b0 ≤ r ∧ ∃ o : Obj, W.heap[r]? = some o ∧ o.isCells = false) : BldP T B g p rest bs W' := by
  obtain ⟨hB, v, hb, hown, hne⟩ := hs
  refine ⟨hB, v, ?_, ?_, hne⟩
  · exact blk_kept (B := b0) (b := g) (t := T) hb hg hr
  · refine hown.kept hg ?_
    rcases hown.2 with ⟨hv, _⟩ | ⟨q, cap', cur, hv, _, hq, _⟩
    · left; rw [hv]; rfl
    · right
      intro e
      rw [hv] at e
      obtain ⟨_, o, ho, hc⟩ := hr q e.symm
      rw [hq] at ho; cases ho; cases hc
theorem bld_kept {T B g b0 : Nat} {rest : List Value} {bs : Bs} {W W' : World} {row : Option Nat} (hs : Bld T B g rest bs W) (hg : W.grownBy W' row) (hr : ∀ r, row = some r → b0 ≤ r ∧ ∃ o : Obj, W.heap[r]? = some o ∧ o.isCells = false) : Bld T B g rest bs W' := by
  rcases hs with h | h
  · exact .inl (bldP_kept h hg hr)
  · exact .inr (bldP_kept h hg hr)
theorem Spare.others {g : Nat} {w w' : World} (h : Spare g w w') {cs : Array Value} {T : TypeId} {fr : Nat × Nat} (hg : w.heap[g]? = some (.cells cs T fr)) : KeepsOthers w w' :=
  ⟨h.size, fun k o hk ho => by
    rw [h.block k (Array.getElem?_eq_some_iff.1 hk).1 (fun e => by subst e; rw [hg] at hk; cases hk; cases ho) (fun cs' fr' e => by rw [hk] at e; cases e; cases ho)]
    exact hk⟩
structure CleanI (s : Bs) (w : World) (pre : List (LineIn s)) (W : World) : Prop where
  bA : Boxed W w.heap.size 9 (.string (ofL s))
  bB : Bld 74 w.heap.size (w.heap.size + 1 + 1) [] (cleanPre s (pre.map (·.1))) W
  bS : Boxed W (w.heap.size + 1 + 1 + 1) 9 (.string (ofL s))
  bel : Below w.heap.size w W
theorem bld_type : BldType 74 2 := ⟨by kernel_rfl, by decide⟩
theorem Bld.block {T B g : Nat} {rest : List Value} {bs : Bs} {w : World} (h : Bld T B g rest bs w) : ∃ cs, w.heap[g]? = some (.cells cs T (0, 0)) := by
  obtain ⟨p, _, v, hb, _⟩ := h.any; exact ⟨_, hb⟩
set_option maxRecDepth 100000 in
set_option maxHeartbeats 2000000 in
theorem clean_any (s : Bs) (w : World) (hE : CEnv w) (hl : s.length ≤ 100000000) :
    Calls Try.prog 25 #[.string (ofL s)] w fun e w' => e = .returned (.tuple #[.string (ofL (cleanOf s).1), .int .i64 (cleanOf s).2]) ∧ Below w.heap.size w w' := by
  have HE := Lib.hid hE; clear hE
  refine (callsIn_wide (n := 3)).1 ?_
  by_cases hc : (check s).2 = 0
  case neg =>
    have hc' : (((check s).2 : Int) != 0) = true := by simp; omega
    have HC := Lib.hid (cleanOf_bad s hc); clear hc
    refine callsIn_wide.2 ?_
    go_enter Try.func25, Try.ntmps25
    go_wp2_with (go_at_call 41; refine (chk1_any s _ _ _ (by first | (simp; done) | exact cell_new_at _ (by simp) _ _) hl).mono ?_; rintro e w' ⟨rfl, rfl⟩)
    go_ret2
    exact ⟨str_of (by rw [HC.out]) (by rw [HC.out]; try rfl), ((Below.refl _ _).alloc (Nat.le_refl _) _).alloc (by simp) _⟩
  have hc' : (((check s).2 : Int) != 0) = false := by simp [hc]
  have hl2 := (check_valid s hc).1
  have HAS := Lib.hid (cleanText_ascii s hc)
  have HC := Lib.hid (cleanOf_ok s hc); clear hc
  refine callsIn_of_wp_marks Try.func25 rfl trivial ?_ rfl
  simp only [Try.ntmps25, List.size_toArray, List.length_cons, List.length_nil, Nat.reduceAdd, Nat.reduceSub, Array.replicate_succ, Array.replicate_zero, List.push_toArray, List.append_toArray, List.nil_append, List.cons_append]
  gi_wp2_with (first
    | (refine ⟨trivial, ?_⟩; gi_at_call 41; refine (callsIn_wide.2 (chk1_any s _ _ _ (by first | (simp; done) | exact cell_new_at _ (by simp) _ _) hl)).mono ?_; rintro e w' ⟨rfl, rfl⟩)
    | (refine ⟨trivial, ?_⟩; gi_at_call 43; refine (lines_in Fence.wide _ trivial rfl _ _).mono ?_; rintro e w' ⟨rfl, rfl⟩))
  obtain ⟨W0, hW0⟩ : ∃ W0, ((((w.alloc (.cells #[.string (ofL s)] 9)).alloc (.cells #[.string (ofL s)] 9)).alloc (.cells #[.pointer none, .slice none 0 0] 74)).alloc (.cells #[.string (ofL s)] 9)) = W0 := ⟨_, rfl⟩
  have bA : Boxed W0 w.heap.size 9 (.string (ofL s)) := by
    rw [← hW0]; exact (((Boxed.new w _ _).alloc _).alloc _).alloc _
  have bBl : W0.heap[w.heap.size + 1 + 1]? = some (.cells #[.pointer none, .slice none 0 0] 74 (0, 0)) := by
    rw [← hW0]
    have h := (Blk.new ((w.alloc (.cells #[.string (ofL s)] 9)).alloc (.cells #[.string (ofL s)] 9)) 74 #[.pointer none, .slice none 0 0]).alloc (.cells #[.string (ofL s)] 9)
    simp only [World.size_alloc] at h
    exact h
  have bB : Bld 74 w.heap.size (w.heap.size + 1 + 1) [] [] W0 := .inl ⟨by omega, .slice none 0 0, bBl, World.ownsRow_nil _ _ _ _, by simp [Value.ownBlock]⟩
  clear bBl
  have bS : Boxed W0 (w.heap.size + 1 + 1 + 1) 9 (.string (ofL s)) := by
    rw [← hW0]
    have h := Boxed.new (((w.alloc (.cells #[.string (ofL s)] 9)).alloc (.cells #[.string (ofL s)] 9)).alloc (.cells #[.pointer none, .slice none 0 0] 74)) 9 (.string (ofL s))
    simpa only [World.size_alloc] using h
  have hB0 : Below w.heap.size w W0 := by
    rw [← hW0]; exact ((((Below.refl _ w).alloc (Nat.le_refl _) _).alloc (by simp) _).alloc (by simp; omega) _).alloc (by simp; omega) _
  have hsz : W0.heap.size = w.heap.size + 4 := by rw [← hW0]; simp
  rw [hW0]
  clear hW0
  refine wpIn_rangeFunc_ownH rfl (by omega) (gf := 63) (lb := #[.pointer (some ⟨w.heap.size + 1 + 1 + 1, 0, none⟩)]) rfl trivial (enters_of Try.func63 (by kernel_rfl) rfl)
    (lines_stops Fence.wide _ trivial rfl (by omega) (w.heap.size + 1 + 1 + 1) s hl W0 (by omega) bS.cell) keepsBox_t keepsBox_b (Below.refl _ _) (fun _ => rfl)
    (CleanI s w) (fun _ _ _ => False)
    (fun q W W' row hs hg' hr => ⟨blk_kept hs.bA hg' hr, bld_kept hs.bB hg' hr, blk_kept hs.bS hg' hr, ownFrom_below (β := Unit) (w₀ := w) (by omega) (by omega) () W W' row hs.bel hg' hr⟩)
    (fun _ _ _ _ _ hs _ _ => hs)
    ⟨bA, bB, bS, hB0⟩
    (fun x a' W => ∃ Bx u7 u8 u9 u19, w.heap.size + 1 + 1 + 1 < Bx ∧ Blk W Bx 63 #[.int .i64 x.1.1, .int .i64 x.1.2] ∧ a' = { tmps := #[Value.string (ofL s), Value.pointer (some { block := w.heap.size, off := 0 }), Value.string { data := #[] }, Value.int IntKind.i64 0, Value.int IntKind.i64 ((check s).2 : Int), Value.pointer (some { block := w.heap.size + 1 + 1, off := 0 }), .pointer (some ⟨Bx, 0, none⟩), u7, u8, u9, Value.string (ofL s), Value.slice (some { block := w.heap.size + 1, off := 0 }) 1 1, Value.int IntKind.i64 ((check s).2 : Int), Value.int IntKind.i64 ((check s).2 : Int), Value.bool false, undef, Value.string (ofL s), Value.func (Fn.func 63) #[] #[Value.pointer (some { block := w.heap.size + 1 + 1 + 1, off := 0 })], .agg #[.int .i64 x.1.1, .int .i64 x.1.2], u19, undef, undef, undef, undef, undef, undef, undef, undef, undef, undef, undef, undef, undef, undef, undef, undef], defers := [] })
    (fun x a' _ X Y row hs hg' hr => by obtain ⟨Bx, u7, u8, u9, u19, h1, h2, h3⟩ := hs; exact ⟨Bx, u7, u8, u9, u19, h1, blk_kept h2 hg' hr, h3⟩)
    ?assign ?body ?done ?stop
  case assign =>
    rintro l pre x W K ⟨bA1, bB1, bS1, hB1⟩ hK
    have hs1 := bS1.lt
    dsimp only [encLine]
    gi_wp2
    exact hK _ _ ((KeepsOthers.alloc _ _).from _) ((KeepsBox.refl _ _).alloc _) ⟨bA1.alloc _, bB1.below ((Below.refl _ _).alloc (Nat.le_refl _) _), bS1.alloc _, hB1.alloc hB1.size _⟩ ⟨W.heap.size, _, _, _, _, hs1, Blk.new W _ _, rfl⟩
  case body =>
    rintro l pre x a' W hlw _ ⟨bA1, bB1, bS1, hB1⟩ ⟨Bx, u7, u8, u9, u19, hBx, bX, rfl⟩ hpl
    have cA := bA1.cell
    have c0 : W.cell? ⟨Bx, 0, none⟩ = some (.int .i64 x.1.1) := bX.cell 0
    have c1 : W.cell? ⟨Bx, 1, none⟩ = some (.int .i64 x.1.2) := bX.cell 1
    obtain ⟨⟨a, b⟩, hab, hbl⟩ := x
    dsimp only at hab hbl c0 c1 bX ⊢
    have hsi := hB1.size
    have hpre := cleanPre_le s (pre.map (·.1)) (fun p hp => by
      obtain ⟨y, _, rfl⟩ := List.mem_map.1 hp; exact y.2)
    rw [List.length_map] at hpre
    have hpre2 : (cleanPre s (pre.map (·.1))).length ≤ 2001 * 2001 := Nat.le_trans hpre (Nat.mul_le_mul (by omega) (by omega))
    clear hpre
    have hcl : (cutB (cutOf s (a, b))).length ≤ 2000 := by
      have h1 := cutB_le (cutOf s (a, b))
      have h2 := cutOf_len s (a, b) ⟨hab, hbl⟩
      simp only at h2
      omega
    have hcut : List.drop a (List.take b s) = cutOf s (a, b) := rfl
    have HCUT := Lib.hid hcut; clear hcut
    have hco : (cutOf s (a, b)).length ≤ 2000 := by
      have h2 := cutOf_len s (a, b) ⟨hab, hbl⟩
      simp only at h2
      omega
    gi_wp2
    refine ⟨trivial, ?_⟩
    rw [HCUT.out]
    refine (CallsIn.inRound l (callsIn_wide.2 (cut_any (cutOf s (a, b)) W (HE.out.below hB1) (by omega)))).mono ?_
    rintro e w1 ⟨y1, y2, n1, rfl, rfl⟩
    have bB2 := bB1.below (bdrewN (Below.refl _ _) n1)
    have hs0 : Spare (w.heap.size + 1 + 1) W (W.drewN n1) := ⟨Nat.le_refl _, fun _ _ _ _ => rfl⟩
    have hb0 : Below w.heap.size w (W.drewN n1) := bdrewN hB1 n1
    gi_wp2
    refine ⟨trivial, ?_⟩
    refine (CallsIn.inRound l (callsIn_wide.2 (writeString_any 74 2 w.heap.size (w.heap.size + 1 + 1) bld_type [] (cleanPre s (pre.map (·.1))) (cutB (cutOf s (a, b))) (W.drewN n1) bB2 rfl (by omega) hb0.size))).mono ?_
    rintro e w2 ⟨rfl, bB3, hb3, hs3⟩
    gi_wp2
    refine ⟨trivial, ?_⟩
    refine (CallsIn.inRound l (callsIn_wide.2 (writeByte_any 74 2 w.heap.size (w.heap.size + 1 + 1) bld_type [] (cleanPre s (pre.map (·.1)) ++ cutB (cutOf s (a, b))) 10 w2 bB3 rfl (by rw [List.length_append]; omega) (Nat.le_trans hb0.size hb3.size)))).mono ?_
    rintro e w3 ⟨rfl, bB4, hb4, hs4⟩
    gi_wp2
    have hsp := (hs0.trans hs3).trans hs4
    obtain ⟨cs, hcs⟩ := bB1.block
    refine ⟨(hsp.others hcs).from _, fun v hv => ?_, ⟨hsp.cell bA1 (by omega) (by decide), ?_, hsp.cell bS1 (by omega) (by decide), (hb0.trans hb3).trans hb4⟩⟩
    · have hk := hsp.cell (k := w.heap.size + 1 + 1 + 1) bS1 (by omega) (by decide)
      rw [bS1.cell] at hv
      exact (Boxed.cell (v := .string (ofL s)) hk).trans hv
    · rw [List.map_append, List.map_cons, List.map_nil, cleanPre_snoc]
      exact bB4
  case done =>
    rintro D ys W hD hys ⟨bA1, bB1, bS1, hB1⟩ hK
    rw [hys] at bB1
    have hct : cleanPre s (linesOf s) = cleanText s := rfl
    rw [hct] at bB1
    gi_wp2
    refine ⟨trivial, ?_⟩
    refine (callsIn_wide.2 (string_any 74 w.heap.size (w.heap.size + 1 + 1) [] (cleanText s) W bB1 hB1.size)).mono ?_
    rintro e w2 ⟨rfl, hb2, hs2⟩
    obtain ⟨cs, hcs⟩ := bB1.block
    have hK2 := (hs2.others hcs).same D _ hK rfl
    have hcl : (cleanText s).length ≤ 2001 * 2001 := by
      have h1 := cleanPre_le s (linesOf s) (linesOf_mem s)
      have h2 := linesOf_len s
      exact Nat.le_trans h1 (Nat.mul_le_mul (by omega) (by omega))
    gi_wp2
    refine ⟨trivial, ?_⟩
    refine (callsIn_wide.2 (fields_any (cleanText s) w2 HAS.out (by omega))).mono ?_
    rintro e w3 ⟨A, rfl, hA, hcells, hb3⟩
    have hK3 := (hb3.block D (Array.getElem?_eq_some_iff.1 hK2).1).trans hK2
    have hcnt := fldGo_count (cleanText s)
    have hjl := join_len (fldGo [] (cleanText s))
    have hfl := fldGo_len (cleanText s) []
    simp only [List.length_nil] at hfl
    gi_wp2
    refine ⟨trivial, ?_⟩
    refine (callsIn_wide.2 (join_any (fldGo [] (cleanText s)) A w3 hcells hA (by omega) (by omega))).mono ?_
    rintro e w4 ⟨rfl, hb4⟩
    have hK4 := (hb4.block D (Array.getElem?_eq_some_iff.1 hK3).1).trans hK3
    have hbf : Below w.heap.size w w4 := ((hB1.trans hb2).trans (hb3.mono (Nat.le_trans hB1.size hb2.size))).trans (hb4.mono (Nat.le_trans (Nat.le_trans hB1.size hb2.size) hb3.size))
    gi_wp2
    refine ⟨by simp, .inl ⟨_, _, rfl, run_takeDeferred hK4, ?_⟩⟩
    exact ⟨.tuple #[.string (ofL (Lib.join (fldGo [] (cleanText s)) [32])), .int .i64 0], by simp [results, Try.f25, go_sem], str_of (by rw [HC.out]) (by rw [HC.out]; try rfl), hbf.trans (belowK_b (w := w) (Nat.le_refl _) w4 D _ _ (by omega) hK4 rfl rfl)⟩
  case stop =>
    rintro D c pre W _ _ h _
    exact h.elim
end Go.Proofs.Ytfdcimkdhioepaa
