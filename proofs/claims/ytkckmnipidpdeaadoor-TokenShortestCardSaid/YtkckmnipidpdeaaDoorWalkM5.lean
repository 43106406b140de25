/-
  WALKS: the law package's made.
-/
import Derived.Test.YtkckmnipidpdeaaDoorWalkM1
import Derived.Test.YtkckmnipidpdeaaDoorWalkM3
import Derived.Test.YtkckmnipidpdeaaDoorWalkM4
import Derived.Test.YtkckmnipidpdeaaDoorPlain17
namespace Go.Proofs.YtkckmnipidpdeaaDoor
open Go.RowKit Mist
attribute [local go_sem] ofL_extract ofL_size ofL_get ofL_bytes ofL_append
def MadePost (bs : List (Nat × Nat)) (w : World) (e : Ending) (w' : World) : Prop := ∃ v, e = .returned (.tuple #[v, .string (ofL (madeText bs))]) ∧ Toks w' v (madeToks bs) ∧ Below w.heap.size w w'
theorem madePost_of {a b : List (Nat × Nat)} {w w' : World} {v : Value} (h : a = b) (ht : Toks w' v (madeToks b)) (hb : Below w.heap.size w w') : MadePost a w (.returned (.tuple #[v, .string (ofL (madeText b))])) w' := by
  subst h; exact ⟨v, rfl, ht, hb⟩
theorem made_toks {w : World} {base n : Nat} {v : Value} {bs : List (Nat × Nat)} (h : w.ownsRow base 38 3 v n (rowCells (madeToks bs))) (hn : bs.length = n) : Toks w v (madeToks bs) := by
  refine Toks.of_own (base := base) ?_
  rw [madeToks_len, hn]; exact h
theorem alonew (k : Nat) (t : Bs) (a : Int) (x : Bool) (w : World) (h : aloneB t = x) :
    Calls Tryd.prog 53 #[.agg #[.int .u8 k, .string (ofL t), .int .i64 a]] w fun e w' => e = .returned (.bool x) ∧ Below w.heap.size w w' := by
  refine (alone_any ⟨k, t, a⟩ w).mono ?_
  rintro e w' ⟨rfl, hb⟩
  exact ⟨by rw [← h], hb⟩
/-- The token's box, and what else a round of made holds on to. -/
structure MBox (w : World) (g k : Nat) (t : Bs) (a : Int) (v : Value) (n : Nat) (L : List Tok) (b8 o8 : Nat) (W : World) : Prop where
  c0 : W.cell? ⟨g, 0, none⟩ = some (.int .u8 k)
  c1 : W.cell? ⟨g, 1, none⟩ = some (.string (ofL t))
  c2 : W.cell? ⟨g, 2, none⟩ = some (.int .i64 a)
  own : W.ownsRow w.heap.size 38 3 v n (rowCells L)
  row : TokRow W b8 o8 pieces
  below : Below w.heap.size w W
  lt : g < W.heap.size
  far : w.heap.size ≤ g
  ne : v.ownBlock ≠ some g
  ne8 : b8 ≠ g
  far8 : v.ownBlock ≠ some b8
  fz : W.frozen? ⟨g, 2, none⟩ = false
theorem MBox.new {w wr : World} {k : Nat} {t : Bs} {a : Int} {v : Value} {n : Nat} {L : List Tok} {b8 o8 : Nat}
    (ho : wr.ownsRow w.heap.size 38 3 v n (rowCells L)) (hr : TokRow wr b8 o8 pieces) (hb : Below w.heap.size w wr) (h8 : v.ownBlock ≠ some b8) : MBox w wr.heap.size k t a v n L b8 o8 (wr.alloc (.cells #[.int .u8 k, .string (ofL t), .int .i64 a] 38)) := by
  have hnew := heap_alloc_new wr (.cells #[.int .u8 k, .string (ofL t), .int .i64 a] 38)
  exact ⟨by rw [Lib.cell_of_heap hnew]; rfl, by rw [Lib.cell_of_heap hnew]; rfl, by rw [Lib.cell_of_heap hnew]; rfl, ho.alloc _, hr.below ((Below.refl _ _).alloc (Nat.le_refl _) _), hb.alloc hb.size _, by simp, hb.size,
    fun h => by have := (ho.lt _ h).2; omega, fun h => by have := hr.lt; omega, h8, by unfold World.frozen?; simp only [hnew]; rfl⟩
theorem MBox.next {w W W' : World} {g k : Nat} {t : Bs} {a : Int} {v : Value} {n : Nat} {L : List Tok} {b8 o8 : Nat} (h : MBox w g k t a v n L b8 o8 W) (hb : Below W.heap.size W W') : MBox w g k t a v n L b8 o8 W' :=
  ⟨(hb.cell (p := ⟨g, 0, none⟩) h.lt).trans h.c0, (hb.cell (p := ⟨g, 1, none⟩) h.lt).trans h.c1, (hb.cell (p := ⟨g, 2, none⟩) h.lt).trans h.c2, own_below h.own hb, h.row.below hb, h.below.trans (hb.mono h.below.size), Nat.lt_of_lt_of_le h.lt hb.size, h.far, h.ne, h.ne8, h.far8, (by have := hb.block g h.lt; unfold World.frozen?; simp only [this]; exact h.fz)⟩
theorem MBox.set_ {w W : World} {g k : Nat} {t : Bs} {a : Int} {v : Value} {n : Nat} {L : List Tok} {b8 o8 : Nat} (h : MBox w g k t a v n L b8 o8 W) (a' : Int) : MBox w g k t a' v n L b8 o8 (W.setCell ⟨g, 2, none⟩ (.int .i64 a')) := by
  have hb8 : ∀ j, (W.setCell ⟨g, 2, none⟩ (.int .i64 a')).cell? ⟨b8, j, none⟩ = W.cell? ⟨b8, j, none⟩ := fun j => World.cell?_setCell_other W _ _ _ (fun e => h.ne8 (by injection e with e1; exact e1.symm))
  exact ⟨(World.cell?_setCell_other W _ _ _ (by simp)).trans h.c0, (World.cell?_setCell_other W _ _ _ (by simp)).trans h.c1, World.cell?_setCell_same' _ _ _ (by rw [h.c2]; rfl),
    ownsRow_setCell_other h.own h.ne _, ⟨by simpa using h.row.lt, fun j hj => (hb8 _).trans (h.row.kind j hj), fun j hj => (hb8 _).trans (h.row.text j hj), fun j hj => (hb8 _).trans (h.row.at_ j hj)⟩, h.below.setCell (p := ⟨g, 2, none⟩) h.far _, by simpa using h.lt, h.far, h.ne, h.ne8, h.far8, by rw [World.frozen?_setCell]; exact h.fz⟩
/-- What stands behind the append. -/
theorem MBox.grown {w W W1 : World} {g k : Nat} {t : Bs} {a : Int} {v : Value} {n : Nat} {L : List Tok} {b8 o8 gg cap m : Nat} {o : Obj} (h : MBox w g k t a v n L b8 o8 W) (hg : ((W.alloc o).drew).grownBy W1 v.ownBlock) (hat : v.ownBlock = some gg ∨ gg = W.heap.size + 1) :
    TokRow W1 b8 o8 pieces ∧ (Value.slice (some ⟨gg, 0, none⟩) m cap).ownBlock ≠ some b8 ∧ Below w.heap.size w W1 := by
  have hr : TokRow (W.alloc o) b8 o8 pieces := h.row.below ((Below.refl _ _).alloc (Nat.le_refl _) _)
  have hc : ∀ j, W1.cell? ⟨b8, j, none⟩ = (W.alloc o).cell? ⟨b8, j, none⟩ := fun j => World.cell?_of_block (hg.block b8 hr.lt (fun e => h.far8 e.symm))
  refine ⟨⟨?_, fun j hj => (hc _).trans (hr.kind j hj), fun j hj => (hc _).trans (hr.text j hj), fun j hj => (hc _).trans (hr.at_ j hj)⟩, ?_, ?_⟩
  · exact Nat.lt_of_lt_of_le hr.lt hg.size
  · intro e
    have e2 : gg = b8 := by simpa [Value.ownBlock] using e
    rcases hat with hat | hat
    · exact h.far8 (by rw [hat, e2])
    · have := h.row.lt; omega
  · exact (h.below.alloc h.below.size o).drew.grown hg (by have := h.below.size; simp; omega) (fun k hk => (h.own.lt k hk).1)
theorem world_gen {P : Program} {c : Code} {Q : Exit → Act → World → Prop} {a : Act} {W0 : World} (F : World → Prop) (h0 : F W0) (h : ∀ W, F W → c.wp P Q a W) : c.wp P Q a W0 := h W0 h0
set_option maxRecDepth 100000 in
set_option maxHeartbeats 4000000 in
theorem made_any (v : Value) (bs : List (Nat × Nat)) (most : Nat) (w : World) (hv : Pairs w v bs) (hm : most ≤ 60) (hby : ∀ p ∈ bs, p.1 < 256 ∧ p.2 < 256) (hl : bs.length ≤ 4611686018427387904) :
    Calls Tryd.prog 26 #[v, .int .i64 most] w (MadePost (bs.take most) w) := by
  obtain ⟨A, c, rfl⟩ : ∃ A c, v = .slice A bs.length c := by obtain ⟨A, c, h, _⟩ := hv; exact ⟨A, c, h⟩
  have HV := Lib.hid hv; clear hv
  have HBY := Lib.hid hby; clear hby
  obtain ⟨i0, hi0, hz0, hz1, hz2⟩ := info_parts token_info
  go_enter Tryd.func26, Tryd.ntmps26
  go_wp2_with fail
  refine (pieces_any _).mono ?_
  rintro e w1 ⟨v8, rfl, ht8, hb1⟩
  obtain ⟨b8, o8, c8, rfl, _, hr8⟩ := ht8.row (by decide)
  have HR8 := Lib.hid hr8; clear hr8 ht8
  rw [show pieces.length = 31 from rfl]
  have hsz1 := hb1.size
  rw [World.size_alloc] at hsz1
  have HB1 := Lib.hid hb1; clear hb1
  have hb8 : b8 ≠ w.heap.size := by
    intro e
    have h := HR8.out.kind 0 (by decide)
    rw [e] at h
    have h2 := HB1.out.cell (p := ⟨w.heap.size, o8 + 0 * 3, none⟩) (by rw [World.size_alloc]; exact Nat.lt_succ_self _)
    rw [h] at h2
    have h3 := Lib.cell_of_heap (j := o8 + 0 * 3) (heap_alloc_new w (.cells #[] 38))
    rw [h3] at h2
    simp at h2
  go_wp2
  go_loopw [6, 7, 9] (fun v s i wr => ∃ n : Nat, n ≤ bs.length ∧ n ≤ most ∧ i = .int .i64 n ∧ s = .string (ofL (madeText (bs.take n))) ∧ wr.ownsRow w.heap.size 38 3 v n (rowCells (madeToks (bs.take n))) ∧ TokRow wr b8 o8 pieces ∧ v.ownBlock ≠ some b8 ∧ Below w.heap.size w wr) (fun _ _ i _ => bs.length - (intOf i).toNat)
  case atStart => exact ⟨0, Nat.zero_le _, Nat.zero_le _, rfl, rfl, own_below (World.ownsRow_made _ _ _ (Nat.le_refl _) (by simp [maxLen]) rfl) HB1.out, HR8.out, by simp [Value.ownBlock]; exact fun h => hb8 h.symm, ((Below.refl _ _).alloc (Nat.le_refl _) _).trans (HB1.out.mono (by simp))⟩
  case round =>
    obtain ⟨n, hn, hnm, rfl, rfl, hown, hr8, hne, hb⟩ := hrel
    have HR8' := Lib.hid hr8; clear hr8
    have HNE := Lib.hid hne; clear hne
    have HB := Lib.hid hb; clear hb
    obtain ⟨A6, c6, hv6⟩ := own_form hown
    obtain ⟨m, hm6⟩ : ∃ m, n = m := ⟨_, rfl⟩
    rw [show (Value.slice A6 n c6) = .slice A6 m c6 by rw [hm6]] at hv6
    subst hv6
    have HO := Lib.hid hown; clear hown
    by_cases hlt : n < bs.length
    · by_cases hlm : n < most
      · obtain ⟨bb, o, rfl, hr⟩ := HV.out.rowA (by omega)
        have HR := Lib.hid (hr.below HB.out); clear hr
        have hf := HR.out.fst n hlt
        have hs := HR.out.snd n hlt
        have hbl := HR.out.lt
        have hbz := HB.out.size
        obtain ⟨hx, hy⟩ := HBY.out _ (pg_mem bs n hlt)
        have hrem : Int.tmod ((pg bs n).1 : Int) 31 = (((pg bs n).1 % 31 : Nat) : Int) := by rw [Int.tmod_eq_emod_of_nonneg (by omega)]; omega
        have hk1 : (pg bs n).1 % 31 < 31 := by omega
        have hpk := HR8'.out.kind ((pg bs n).1 % 31) hk1
        have hpt := HR8'.out.text ((pg bs n).1 % 31) hk1
        have hpa := HR8'.out.at_ ((pg bs n).1 % 31) hk1
        have hb8l := HR8'.out.lt
        obtain ⟨P, hP⟩ : ∃ P, P = tg pieces ((pg bs n).1 % 31) := ⟨_, rfl⟩
        rw [← hP] at hpk hpt hpa
        obtain ⟨b, hbe⟩ : ∃ b, b = (pg bs n).2 := ⟨_, rfl⟩
        rw [← hbe] at hs hy
        obtain ⟨x, hxe⟩ : ∃ x, x = (pg bs n).1 := ⟨_, rfl⟩
        rw [← hxe] at hf hx hrem hk1 hpk hpt hpa hP
        have hpg : pg bs n = (x, b) := by rw [hxe, hbe]
        have HPG := Lib.hid hpg; clear hpg hxe hbe
        have HP := Lib.hid (show P = pieceAt x from hP); clear hP
        obtain ⟨M, hM⟩ : ∃ M, M = madeText (bs.take n) := ⟨_, rfl⟩
        have hml : M.length ≤ 1200 := by rw [hM]; have := madeText_len (bs.take n); rw [List.length_take] at this; omega
        rw [← hM]
        obtain ⟨L, hL⟩ : ∃ L, L = madeToks (bs.take n) := ⟨_, rfl⟩
        rw [← hL] at HO
        have hll : L.length = n := by rw [hL, madeToks_len, List.length_take]; omega
        obtain ⟨G, hG⟩ : ∃ G, G = gapFor (lastOf none (bs.take n)) P.text b := ⟨_, rfl⟩
        have HMT := Lib.hid (show madeText (bs.take (n + 1)) = M ++ G ++ P.text by rw [pg_take bs n hlt, HPG.out, madeText_snoc, hM, hG, HP.out])
        have HMK := Lib.hid (show madeToks (bs.take (n + 1)) = L ++ [⟨P.kind, P.text, (((M ++ G).length : Nat) : Int)⟩] by rw [pg_take bs n hlt, HPG.out, madeToks_snoc, hL, hM, hG, HP.out])
        have HLT := Lib.hid (show ∀ q, n = q + 1 → lastOf none (bs.take n) = some (tg L q).text by
          intro q hq
          rw [hL, hq, pg_take bs q (by omega)]
          obtain ⟨x', b'⟩ := pg bs q
          have := madeToks_last (bs.take q) x' b'
          rw [List.length_take, Nat.min_eq_left (by omega)] at this
          rw [lastOf_snoc, this])
        clear hM hL
        have hgo : gapOf b ≠ [] := by
          obtain ⟨c, r, h, _⟩ := gap_head _ (gapOf_mem b)
          rw [h]; simp
        obtain ⟨kd, tx, ata⟩ := P
        simp only at hpk hpt hpa hG HMT HMK HP
        have hown := HO.out
        clear HO
        have hkd : kd < 256 := by
          have h1 := piece_kinds _ (pieceAt_mem x)
          rw [← HP.out] at h1
          simp only at h1
          omega
        have htl : tx.length ≤ 12 := by
          have h1 := (pieces_valid _ (pieceAt_mem x)).1
          rw [← HP.out] at h1
          exact h1
        have HBOX := fun a => MBox.new (k := kd) (t := tx) (a := a) hown HR8'.out HB.out HNE.out
        have HBX := Lib.hid HBOX; clear HBOX
        have hgl := (gaps_valid _ (gapOf_mem b)).1
        rcases Nat.eq_zero_or_pos n with hn0 | hn0
        · have hG2 : G = if 128 ≤ b then gapOf b else [] := by rw [hG, hn0]; rfl
          clear hG
          subst hn0
          subst hm6
          simp only [Nat.zero_mul, Nat.add_zero] at hf hs
          by_cases h128 : 128 ≤ b
          · rw [if_pos h128] at hG2
            subst hG2
            obtain ⟨N, hN⟩ : ∃ N, M ++ gapOf b = N := ⟨_, rfl⟩
            have hNl : N.length ≤ 1300 := by rw [← hN, List.length_append]; omega
            have hNL : M.length + (gapOf b).length = N.length := by rw [← hN, List.length_append]
            rw [hN] at HMT HMK
            go_wp2_with fail
            refine (gapw_any b _ hy).mono ?_
            rintro e w2 ⟨rfl, rfl⟩
            go_wp2_with fail
            try simp only [hN, ← Int.natCast_add, hNL]
            clear hN hNL
            refine world_gen _ (HBX.out _) ?_
            intro W hW
            obtain ⟨g, hg⟩ : ∃ g, g = wr.heap.size := ⟨_, rfl⟩
            rw [← hg] at hW ⊢
            clear hg
            have c0 := hW.c0
            have c1 := hW.c1
            have c2 := hW.c2
            have ag := hW.ne
            have hWs := hW.lt
            have hW0 := hW.below.size
            have HW := Lib.hid hW; clear hW
            clear hf hs hpk hpt hpa
            have hcat : ¬ 9223372036854775807 < N.length + tx.length := by omega
            go_region_held3 (fun w' => w'.cell? ⟨g, 0, none⟩ = some (.int .u8 kd) ∧ w'.cell? ⟨g, 1, none⟩ = some (.string (ofL tx)) ∧ w'.cell? ⟨g, 2, none⟩ = some (.int .i64 (N.length : Nat)))
              (first
                | go_keep
                | (go_split_ands
                   refine ⟨?_, ?_, ?_⟩
                   · (rw [hgrow.cell_far _ (by simp; omega) (Ne.symm ag)]; assumption)
                   · (rw [hgrow.cell_far _ (by simp; omega) (Ne.symm ag)]; assumption)
                   · (rw [hgrow.cell_far _ (by simp; omega) (Ne.symm ag)]; assumption)))
              ((refine step_append_lies _ (by rfl) _ _ _ (by rfl) w.heap.size 38 i0 _ 3 32 Tryd.underlying23 hi0 hz0 hz1 hz2 rfl (by omega) _ 0 (rowCells L) (by rfl) ((HW.out.own.alloc _).drew)
                   ⟨W.heap.size, 0, none⟩ 1 1 (tokCells ⟨kd, tx, (N.length : Nat)⟩) (by rfl) (by rfl) (World.news_of_block (cs := #[.int .u8 kd, .string (ofL tx), .int .i64 (N.length : Nat)]) (t := 38) (fr := (0, 0)) (heap_alloc_new W _)) (tokCells_one _)
                   (by omega) (by simp only [maxLen]; omega) (by omega) (by simp; omega) (W.heap.size + 1) (by simp) ?_; intro gg cap w1 hown1 hgrow hat hlt'))
            obtain ⟨k1, k2, k3⟩ := HW.out.grown (m := 0 + 1) (cap := cap) hgrow hat
            have K1 := Lib.hid k1; clear k1
            have K2 := Lib.hid k2; clear k2
            have K3 := Lib.hid k3; clear k3
            go_wp2
            refine ⟨⟨0 + 1, by omega, by omega, by go_num, by rw [HMT.out], ?_, K1.out, K2.out, K3.out⟩, by simp [intOf]; omega⟩
            rw [HMK.out, rowCells_append]
            simpa [rowCells] using hown1
          · rw [if_neg h128] at hG2
            subst hG2
            rw [List.append_nil] at HMT HMK
            go_wp2_with fail
            refine world_gen _ (HBX.out _) ?_
            intro W hW
            obtain ⟨g, hg⟩ : ∃ g, g = wr.heap.size := ⟨_, rfl⟩
            rw [← hg] at hW ⊢
            clear hg
            have c0 := hW.c0
            have c1 := hW.c1
            have c2 := hW.c2
            have ag := hW.ne
            have hWs := hW.lt
            have hW0 := hW.below.size
            have HW := Lib.hid hW; clear hW
            clear hf hs hpk hpt hpa
            have hcat : ¬ 9223372036854775807 < M.length + tx.length := by omega
            go_region_held3 (fun w' => w'.cell? ⟨g, 0, none⟩ = some (.int .u8 kd) ∧ w'.cell? ⟨g, 1, none⟩ = some (.string (ofL tx)) ∧ w'.cell? ⟨g, 2, none⟩ = some (.int .i64 (M.length : Nat)))
              (first
                | go_keep
                | (go_split_ands
                   refine ⟨?_, ?_, ?_⟩
                   · (rw [hgrow.cell_far _ (by simp; omega) (Ne.symm ag)]; assumption)
                   · (rw [hgrow.cell_far _ (by simp; omega) (Ne.symm ag)]; assumption)
                   · (rw [hgrow.cell_far _ (by simp; omega) (Ne.symm ag)]; assumption)))
              ((refine step_append_lies _ (by rfl) _ _ _ (by rfl) w.heap.size 38 i0 _ 3 32 Tryd.underlying23 hi0 hz0 hz1 hz2 rfl (by omega) _ 0 (rowCells L) (by rfl) ((HW.out.own.alloc _).drew)
                   ⟨W.heap.size, 0, none⟩ 1 1 (tokCells ⟨kd, tx, (M.length : Nat)⟩) (by rfl) (by rfl) (World.news_of_block (cs := #[.int .u8 kd, .string (ofL tx), .int .i64 (M.length : Nat)]) (t := 38) (fr := (0, 0)) (heap_alloc_new W _)) (tokCells_one _)
                   (by omega) (by simp only [maxLen]; omega) (by omega) (by simp; omega) (W.heap.size + 1) (by simp) ?_; intro gg cap w1 hown1 hgrow hat hlt'))
            obtain ⟨k1, k2, k3⟩ := HW.out.grown (m := 0 + 1) (cap := cap) hgrow hat
            have K1 := Lib.hid k1; clear k1
            have K2 := Lib.hid k2; clear k2
            have K3 := Lib.hid k3; clear k3
            go_wp2
            refine ⟨⟨0 + 1, by omega, by omega, by go_num, by rw [HMT.out], ?_, K1.out, K2.out, K3.out⟩, by simp [intOf]; omega⟩
            rw [HMK.out, rowCells_append]
            simpa [rowCells] using hown1
        · obtain ⟨q, hq⟩ : ∃ q, m = q + 1 := ⟨m - 1, by omega⟩
          subst hq
          have HM6 := Lib.hid hm6
          have hq1 : q + 1 ≤ 60 := by omega
          rw [HLT.out q hm6, gapFor_some] at hG
          rw [hm6] at hown
          have hrA0 := (Toks.of_own (show wr.ownsRow w.heap.size 38 3 (.slice A6 L.length c6) L.length (rowCells L) by rw [hll, hm6]; exact hown)).rowA (by omega)
          clear hm6
          obtain ⟨bA, oA, rfl, hrA⟩ := hrA0
          have hqL : q < L.length := by have := HM6.out; omega
          have hkq := hrA.kind q hqL
          have htq := hrA.text q hqL
          have haq := hrA.at_ q hqL
          have hbA := hrA.lt
          clear hrA
          obtain ⟨⟨kq, tq, aq⟩, hT⟩ : ∃ T, T = tg L q := ⟨_, rfl⟩
          rw [← hT] at hkq htq haq hG
          dsimp only at hkq htq haq hG
          clear hT
          have HBX2 := Lib.hid (fun a => MBox.new (k := kd) (t := tx) (a := a) hown HR8'.out HB.out HNE.out)
          clear HBX
          have hqn : ((q : Int) + 1) = (n : Int) := by have := HM6.out; omega
          have HQN := Lib.hid hqn; clear hqn
          by_cases h100 : 100 ≤ b
          · rw [if_pos (.inl h100)] at hG
            subst hG
            obtain ⟨N, hN⟩ : ∃ N, M ++ gapOf b = N := ⟨_, rfl⟩
            have hNl : N.length ≤ 1300 := by rw [← hN, List.length_append]; omega
            have hNL : M.length + (gapOf b).length = N.length := by rw [← hN, List.length_append]
            rw [hN] at HMT HMK
            go_wp2_with fail
            refine (gapw_any b _ hy).mono ?_
            rintro e w9 ⟨rfl, rfl⟩
            go_wp2_with fail
            try simp only [hN, ← Int.natCast_add, hNL]
            clear hN hNL
            refine world_gen _ (HBX2.out _) ?_
            intro W hW
            obtain ⟨g, hg⟩ : ∃ g, g = wr.heap.size := ⟨_, rfl⟩
            rw [← hg] at hW ⊢
            clear hg
            have c0 := hW.c0
            have c1 := hW.c1
            have c2 := hW.c2
            have ag := hW.ne
            have hWs := hW.lt
            have hW0 := hW.below.size
            have HW := Lib.hid hW; clear hW
            clear hf hs hpk hpt hpa
            have hcat : ¬ 9223372036854775807 < N.length + tx.length := by omega
            go_region_held3 (fun w' => w'.cell? ⟨g, 0, none⟩ = some (.int .u8 kd) ∧ w'.cell? ⟨g, 1, none⟩ = some (.string (ofL tx)) ∧ w'.cell? ⟨g, 2, none⟩ = some (.int .i64 (N.length : Nat)))
              (first
                | go_keep
                | (go_split_ands
                   refine ⟨?_, ?_, ?_⟩
                   · (rw [hgrow.cell_far _ (by simp; omega) (Ne.symm ag)]; assumption)
                   · (rw [hgrow.cell_far _ (by simp; omega) (Ne.symm ag)]; assumption)
                   · (rw [hgrow.cell_far _ (by simp; omega) (Ne.symm ag)]; assumption)))
              ((refine step_append_lies _ (by rfl) _ _ _ (by rfl) w.heap.size 38 i0 _ 3 32 Tryd.underlying23 hi0 hz0 hz1 hz2 rfl (by omega) _ (q + 1) (rowCells L) (by rfl) ((HW.out.own.alloc _).drew)
                   ⟨W.heap.size, 0, none⟩ 1 1 (tokCells ⟨kd, tx, (N.length : Nat)⟩) (by rfl) (by rfl) (World.news_of_block (cs := #[.int .u8 kd, .string (ofL tx), .int .i64 (N.length : Nat)]) (t := 38) (fr := (0, 0)) (heap_alloc_new W _)) (tokCells_one _)
                   (by omega) (by simp only [maxLen]; omega) (by omega) (by simp; omega) (W.heap.size + 1) (by simp) ?_; intro gg cap w1 hown1 hgrow hat hlt'))
            obtain ⟨k1, k2, k3⟩ := HW.out.grown (m := (q + 1) + 1) (cap := cap) hgrow hat
            have K1 := Lib.hid k1; clear k1
            have K2 := Lib.hid k2; clear k2
            have K3 := Lib.hid k3; clear k3
            go_wp2
            refine ⟨⟨n + 1, by omega, by omega, by go_num, by rw [HMT.out], ?_, K1.out, K2.out, K3.out⟩, by simp [intOf]; omega⟩
            rw [HMK.out, rowCells_append]
            rw [HM6.out]; simpa [rowCells] using hown1
          · cases hal : aloneB tx
            case true =>
              rw [if_neg (by rintro (h | ⟨h, _⟩); exact h100 h; rw [hal] at h; cases h)] at hG
              subst hG
              rw [List.append_nil] at HMT HMK
              go_wp2_with fail
              refine (alonew kd tx ata true _ hal).mono ?_
              rintro e w2 ⟨rfl, hb2⟩
              have h2 := (HBX2.out ata).next hb2
              have d0 := h2.c0
              have d1 := h2.c1
              have d2 := h2.c2
              have dz := h2.fz
              have hlt2 := h2.lt
              have hkq2 := (hb2.cell (p := ⟨bA, _, none⟩) (by simp; omega)).trans ((World.cell?_alloc_lt wr _ ⟨bA, _, none⟩ hbA).trans hkq)
              have htq2 := (hb2.cell (p := ⟨bA, _, none⟩) (by simp; omega)).trans ((World.cell?_alloc_lt wr _ ⟨bA, _, none⟩ hbA).trans htq)
              have haq2 := (hb2.cell (p := ⟨bA, _, none⟩) (by simp; omega)).trans ((World.cell?_alloc_lt wr _ ⟨bA, _, none⟩ hbA).trans haq)
              have hs2 := (hb2.cell (p := ⟨bb, _, none⟩) (by simp; omega)).trans ((World.cell?_alloc_lt wr _ ⟨_, _, none⟩ hbl).trans hs)
              have hsz2 := hb2.size
              rw [World.size_alloc] at hsz2
              have H2 := Lib.hid h2; clear h2
              have HB2 := Lib.hid hb2; clear hb2
              go_wp2_with fail
              refine world_gen _ (H2.out.set_ _) ?_
              intro W hW
              obtain ⟨g, hg⟩ : ∃ g, g = wr.heap.size := ⟨_, rfl⟩
              rw [← hg] at hW ⊢
              clear hg
              have c0 := hW.c0
              have c1 := hW.c1
              have c2 := hW.c2
              have ag := hW.ne
              have hWs := hW.lt
              have hW0 := hW.below.size
              have HW := Lib.hid hW; clear hW
              clear hf hs hpk hpt hpa
              have hcat : ¬ 9223372036854775807 < M.length + tx.length := by omega
              go_region_held3 (fun w' => w'.cell? ⟨g, 0, none⟩ = some (.int .u8 kd) ∧ w'.cell? ⟨g, 1, none⟩ = some (.string (ofL tx)) ∧ w'.cell? ⟨g, 2, none⟩ = some (.int .i64 (M.length : Nat)))
                (first
                  | go_keep
                  | (go_split_ands
                     refine ⟨?_, ?_, ?_⟩
                     · (rw [hgrow.cell_far _ (by simp; omega) (Ne.symm ag)]; assumption)
                     · (rw [hgrow.cell_far _ (by simp; omega) (Ne.symm ag)]; assumption)
                     · (rw [hgrow.cell_far _ (by simp; omega) (Ne.symm ag)]; assumption)))
                ((refine step_append_lies _ (by rfl) _ _ _ (by rfl) w.heap.size 38 i0 _ 3 32 Tryd.underlying23 hi0 hz0 hz1 hz2 rfl (by omega) _ (q + 1) (rowCells L) (by rfl) ((HW.out.own.alloc _).drew)
                     ⟨W.heap.size, 0, none⟩ 1 1 (tokCells ⟨kd, tx, (M.length : Nat)⟩) (by rfl) (by rfl) (World.news_of_block (cs := #[.int .u8 kd, .string (ofL tx), .int .i64 (M.length : Nat)]) (t := 38) (fr := (0, 0)) (heap_alloc_new W _)) (tokCells_one _)
                     (by omega) (by simp only [maxLen]; omega) (by omega) (by simp; omega) (W.heap.size + 1) (by simp) ?_; intro gg cap w1 hown1 hgrow hat hlt'))
              obtain ⟨k1, k2, k3⟩ := HW.out.grown (m := (q + 1) + 1) (cap := cap) hgrow hat
              have K1 := Lib.hid k1; clear k1
              have K2 := Lib.hid k2; clear k2
              have K3 := Lib.hid k3; clear k3
              go_wp2
              refine ⟨⟨n + 1, by omega, by omega, by go_num, by rw [HMT.out], ?_, K1.out, K2.out, K3.out⟩, by simp [intOf]; omega⟩
              rw [HMK.out, rowCells_append]
              rw [HM6.out]; simpa [rowCells] using hown1
            case false =>
              cases hal2 : aloneB tq
              case true =>
                rw [if_neg (by rintro (h | ⟨_, h⟩); exact h100 h; rw [hal2] at h; cases h)] at hG
                subst hG
                rw [List.append_nil] at HMT HMK
                go_wp2_with fail
                refine (alonew kd tx ata false _ hal).mono ?_
                rintro e w2 ⟨rfl, hb2⟩
                have h2 := (HBX2.out ata).next hb2
                have d0 := h2.c0
                have d1 := h2.c1
                have d2 := h2.c2
                have dz := h2.fz
                have hlt2 := h2.lt
                have hkq2 := (hb2.cell (p := ⟨bA, _, none⟩) (by simp; omega)).trans ((World.cell?_alloc_lt wr _ ⟨bA, _, none⟩ hbA).trans hkq)
                have htq2 := (hb2.cell (p := ⟨bA, _, none⟩) (by simp; omega)).trans ((World.cell?_alloc_lt wr _ ⟨bA, _, none⟩ hbA).trans htq)
                have haq2 := (hb2.cell (p := ⟨bA, _, none⟩) (by simp; omega)).trans ((World.cell?_alloc_lt wr _ ⟨bA, _, none⟩ hbA).trans haq)
                have hs2 := (hb2.cell (p := ⟨bb, _, none⟩) (by simp; omega)).trans ((World.cell?_alloc_lt wr _ ⟨_, _, none⟩ hbl).trans hs)
                have hsz2 := hb2.size
                rw [World.size_alloc] at hsz2
                have H2 := Lib.hid h2; clear h2
                have HB2 := Lib.hid hb2; clear hb2
                go_wp2_with fail
                refine (alonew kq tq aq true _ hal2).mono ?_
                rintro e w3 ⟨rfl, hb3⟩
                have h3 := H2.out.next hb3
                have d0 := h3.c0
                have d1 := h3.c1
                have d2 := h3.c2
                have dz := h3.fz
                have hlt3 := h3.lt
                have hs3 := (hb3.cell (p := ⟨bb, _, none⟩) (by show bb < _; omega)).trans hs2
                have H3 := Lib.hid h3; clear h3
                have HB3 := Lib.hid hb3; clear hb3
                go_wp2_with fail
                refine world_gen _ (H3.out.set_ _) ?_
                intro W hW
                obtain ⟨g, hg⟩ : ∃ g, g = wr.heap.size := ⟨_, rfl⟩
                rw [← hg] at hW ⊢
                clear hg
                have c0 := hW.c0
                have c1 := hW.c1
                have c2 := hW.c2
                have ag := hW.ne
                have hWs := hW.lt
                have hW0 := hW.below.size
                have HW := Lib.hid hW; clear hW
                clear hf hs hpk hpt hpa
                have hcat : ¬ 9223372036854775807 < M.length + tx.length := by omega
                go_region_held3 (fun w' => w'.cell? ⟨g, 0, none⟩ = some (.int .u8 kd) ∧ w'.cell? ⟨g, 1, none⟩ = some (.string (ofL tx)) ∧ w'.cell? ⟨g, 2, none⟩ = some (.int .i64 (M.length : Nat)))
                  (first
                    | go_keep
                    | (go_split_ands
                       refine ⟨?_, ?_, ?_⟩
                       · (rw [hgrow.cell_far _ (by simp; omega) (Ne.symm ag)]; assumption)
                       · (rw [hgrow.cell_far _ (by simp; omega) (Ne.symm ag)]; assumption)
                       · (rw [hgrow.cell_far _ (by simp; omega) (Ne.symm ag)]; assumption)))
                  ((refine step_append_lies _ (by rfl) _ _ _ (by rfl) w.heap.size 38 i0 _ 3 32 Tryd.underlying23 hi0 hz0 hz1 hz2 rfl (by omega) _ (q + 1) (rowCells L) (by rfl) ((HW.out.own.alloc _).drew)
                       ⟨W.heap.size, 0, none⟩ 1 1 (tokCells ⟨kd, tx, (M.length : Nat)⟩) (by rfl) (by rfl) (World.news_of_block (cs := #[.int .u8 kd, .string (ofL tx), .int .i64 (M.length : Nat)]) (t := 38) (fr := (0, 0)) (heap_alloc_new W _)) (tokCells_one _)
                       (by omega) (by simp only [maxLen]; omega) (by omega) (by simp; omega) (W.heap.size + 1) (by simp) ?_; intro gg cap w1 hown1 hgrow hat hlt'))
                obtain ⟨k1, k2, k3⟩ := HW.out.grown (m := (q + 1) + 1) (cap := cap) hgrow hat
                have K1 := Lib.hid k1; clear k1
                have K2 := Lib.hid k2; clear k2
                have K3 := Lib.hid k3; clear k3
                go_wp2
                refine ⟨⟨n + 1, by omega, by omega, by go_num, by rw [HMT.out], ?_, K1.out, K2.out, K3.out⟩, by simp [intOf]; omega⟩
                rw [HMK.out, rowCells_append]
                rw [HM6.out]; simpa [rowCells] using hown1
              case false =>
                rw [if_pos (.inr ⟨hal, hal2⟩)] at hG
                subst hG
                obtain ⟨N, hN⟩ : ∃ N, M ++ gapOf b = N := ⟨_, rfl⟩
                have hNl : N.length ≤ 1300 := by rw [← hN, List.length_append]; omega
                have hNL : M.length + (gapOf b).length = N.length := by rw [← hN, List.length_append]
                rw [hN] at HMT HMK
                go_wp2_with fail
                refine (alonew kd tx ata false _ hal).mono ?_
                rintro e w2 ⟨rfl, hb2⟩
                have h2 := (HBX2.out ata).next hb2
                have d0 := h2.c0
                have d1 := h2.c1
                have d2 := h2.c2
                have dz := h2.fz
                have hlt2 := h2.lt
                have hkq2 := (hb2.cell (p := ⟨bA, _, none⟩) (by simp; omega)).trans ((World.cell?_alloc_lt wr _ ⟨bA, _, none⟩ hbA).trans hkq)
                have htq2 := (hb2.cell (p := ⟨bA, _, none⟩) (by simp; omega)).trans ((World.cell?_alloc_lt wr _ ⟨bA, _, none⟩ hbA).trans htq)
                have haq2 := (hb2.cell (p := ⟨bA, _, none⟩) (by simp; omega)).trans ((World.cell?_alloc_lt wr _ ⟨bA, _, none⟩ hbA).trans haq)
                have hs2 := (hb2.cell (p := ⟨bb, _, none⟩) (by simp; omega)).trans ((World.cell?_alloc_lt wr _ ⟨_, _, none⟩ hbl).trans hs)
                have hsz2 := hb2.size
                rw [World.size_alloc] at hsz2
                have H2 := Lib.hid h2; clear h2
                have HB2 := Lib.hid hb2; clear hb2
                go_wp2_with fail
                refine (alonew kq tq aq false _ hal2).mono ?_
                rintro e w3 ⟨rfl, hb3⟩
                have h3 := H2.out.next hb3
                have d0 := h3.c0
                have d1 := h3.c1
                have d2 := h3.c2
                have dz := h3.fz
                have hlt3 := h3.lt
                have hs3 := (hb3.cell (p := ⟨bb, _, none⟩) (by show bb < _; omega)).trans hs2
                have H3 := Lib.hid h3; clear h3
                have HB3 := Lib.hid hb3; clear hb3
                go_wp2_with fail
                refine (gapw_any b _ hy).mono ?_
                rintro e w9 ⟨rfl, rfl⟩
                go_wp2_with fail
                try simp only [hN, ← Int.natCast_add, hNL]
                clear hN hNL
                refine world_gen _ (H3.out.set_ _) ?_
                intro W hW
                obtain ⟨g, hg⟩ : ∃ g, g = wr.heap.size := ⟨_, rfl⟩
                rw [← hg] at hW ⊢
                clear hg
                have c0 := hW.c0
                have c1 := hW.c1
                have c2 := hW.c2
                have ag := hW.ne
                have hWs := hW.lt
                have hW0 := hW.below.size
                have HW := Lib.hid hW; clear hW
                clear hf hs hpk hpt hpa
                have hcat : ¬ 9223372036854775807 < N.length + tx.length := by omega
                go_region_held3 (fun w' => w'.cell? ⟨g, 0, none⟩ = some (.int .u8 kd) ∧ w'.cell? ⟨g, 1, none⟩ = some (.string (ofL tx)) ∧ w'.cell? ⟨g, 2, none⟩ = some (.int .i64 (N.length : Nat)))
                  (first
                    | go_keep
                    | (go_split_ands
                       refine ⟨?_, ?_, ?_⟩
                       · (rw [hgrow.cell_far _ (by simp; omega) (Ne.symm ag)]; assumption)
                       · (rw [hgrow.cell_far _ (by simp; omega) (Ne.symm ag)]; assumption)
                       · (rw [hgrow.cell_far _ (by simp; omega) (Ne.symm ag)]; assumption)))
                  ((refine step_append_lies _ (by rfl) _ _ _ (by rfl) w.heap.size 38 i0 _ 3 32 Tryd.underlying23 hi0 hz0 hz1 hz2 rfl (by omega) _ (q + 1) (rowCells L) (by rfl) ((HW.out.own.alloc _).drew)
                       ⟨W.heap.size, 0, none⟩ 1 1 (tokCells ⟨kd, tx, (N.length : Nat)⟩) (by rfl) (by rfl) (World.news_of_block (cs := #[.int .u8 kd, .string (ofL tx), .int .i64 (N.length : Nat)]) (t := 38) (fr := (0, 0)) (heap_alloc_new W _)) (tokCells_one _)
                       (by omega) (by simp only [maxLen]; omega) (by omega) (by simp; omega) (W.heap.size + 1) (by simp) ?_; intro gg cap w1 hown1 hgrow hat hlt'))
                obtain ⟨k1, k2, k3⟩ := HW.out.grown (m := (q + 1) + 1) (cap := cap) hgrow hat
                have K1 := Lib.hid k1; clear k1
                have K2 := Lib.hid k2; clear k2
                have K3 := Lib.hid k3; clear k3
                go_wp2
                refine ⟨⟨n + 1, by omega, by omega, by go_num, by rw [HMT.out], ?_, K1.out, K2.out, K3.out⟩, by simp [intOf]; omega⟩
                rw [HMK.out, rowCells_append]
                rw [HM6.out]; simpa [rowCells] using hown1
      · subst hm6
        have e : bs.take most = bs.take n := by rw [show n = most by omega]
        have HX := Lib.hid e; clear e
        go_wp2
        go_ret2
        exact madePost_of HX.out (made_toks HO.out (by simp; omega)) HB.out
    · subst hm6
      have e : bs.take most = bs.take n := by rw [List.take_of_length_le (by omega), List.take_of_length_le (by omega)]
      have HX := Lib.hid e; clear e
      go_wp2
      go_ret2
      exact madePost_of HX.out (made_toks HO.out (by simp; omega)) HB.out
end Go.Proofs.YtkckmnipidpdeaaDoor
