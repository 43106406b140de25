/-
  THE WALK of the law TokenPairs.
-/
import Derived.Test.YtpomgledekkjjaaDoorPB
import Derived.BigRegion
import Derived.Maps.AppendAt
import Derived.BigQuiet
import Derived.Deep.CutBlock
import Derived.Deep.DeepCutAuto
namespace Go.Proofs.YtpomgledekkjjaaDoor
open Go.RowKit Mist
attribute [local go_sem] ofL_extract ofL_size ofL_get ofL_bytes ofL_append
theorem own_nilP {W : World} {g base size : Nat} {e : TypeId} (h : Blk W g e #[]) (hb : base ≤ g) : W.ownsRow base e size (.slice (some ⟨g, 0, none⟩) 0 0) 0 [] :=
  ⟨by simp, .inr ⟨g, 0, #[], rfl, hb, h, Nat.le_refl _, by simp [maxLen], by simp, by simp⟩⟩
theorem PB.init {w W : World} {g5 g8 gc gl go : Nat} (h5 : Blk W g5 23 #[.slice (some ⟨gl, 0, none⟩) 0 0]) (h8 : Blk W g8 3 #[.int .i64 0]) (hl : Blk W gl 26 #[]) (ho : Blk W go 3 #[]) (hc : Blk W gc 3 (closeArr fun _ => 0)) (hb : Below w.heap.size w W)
    (e5 : w.heap.size ≤ g5) (e8 : w.heap.size ≤ g8) (el : w.heap.size ≤ gl) (eo : w.heap.size ≤ go) (ec : w.heap.size ≤ gc) (n1 : go ≠ g8) (n2 : go ≠ gc) (n3 : g8 ≠ gc) :
    PB w.heap.size w W g5 g8 gc (.slice (some ⟨gl, 0, none⟩) 0 0) (.slice (some ⟨go, 0, none⟩) 0 0) [] [] (fun _ => 0) :=
  ⟨h5, h8, own_nilP hl el, own_nilP ho eo, hc, hb, e5, e8, ec, Nat.le_trans e5 (Nat.le_of_lt h5.lt), by simp [Value.ownBlock, n1], by simp [Value.ownBlock, n2], n3⟩
theorem blk_topP {W : World} {cs : Array Value} {T : TypeId} {k : Nat} (hk : W.heap.size = k) : Blk (W.alloc (.cells cs T)) k T cs := by subst hk; exact Blk.new W T cs
theorem PB.top {B g5 g8 gc go m co : Nat} {w W : World} {v5 : Value} {l : List Mist.Tok} {op : List Nat} {q : Nat} {cl : Nat → Nat} (h : PB B w W g5 g8 gc v5 (.slice (some ⟨go, 0, none⟩) (m + 1) co) l (op ++ [q]) cl) (hm : m = op.length) : W.cell? ⟨go, m, none⟩ = some (.int .i64 (q : Nat)) := by
  have h1 := h.opn
  rw [List.length_append, List.length_singleton, ← hm] at h1
  rw [h1.cellAt m (by omega), hm]; simp [natCells]
theorem PB.tok {B g5 g8 gc bt c q : Nat} {w W : World} {v6 : Value} {l : List Mist.Tok} {op : List Nat} {cl : Nat → Nat} (h : PB B w W g5 g8 gc (.slice (some ⟨bt, 0, none⟩) l.length c) v6 l op cl) (hq : q < l.length) : W.cell? ⟨bt, q * 3 + 1, none⟩ = some (.string (ofL (tg l q).text)) := by
  rw [h.own.cellAt (q * 3 + 1) (by omega)]
  exact rowCells_at l q 1 _ hq rfl
def opL : List Bs := [[40], [91], [123]]
def clL : List Bs := [[41], [93], [125]]
set_option maxRecDepth 100000 in
theorem run_op (r : Nat) (h : r < 3) (w : World) : Sem.run Tryd.prog (Instr.index 28 (.agg #[.string ⟨#[40]⟩, .string ⟨#[91]⟩, .string ⟨#[123]⟩]) (.int .i64 r)) w = .ok (.string (ofL (sg opL r))) w := by
  obtain rfl | rfl | rfl : r = 0 ∨ r = 1 ∨ r = 2 := by omega
  all_goals kernel_rfl
set_option maxRecDepth 100000 in
theorem run_cl (r : Nat) (h : r < 3) (w : World) : Sem.run Tryd.prog (Instr.index 28 (.agg #[.string ⟨#[41]⟩, .string ⟨#[93]⟩, .string ⟨#[125]⟩]) (.int .i64 r)) w = .ok (.string (ofL (sg clL r))) w := by
  obtain rfl | rfl | rfl : r = 0 ∨ r = 1 ∨ r = 2 := by omega
  all_goals kernel_rfl
set_option maxRecDepth 100000 in
theorem run_op8 (r : Nat) (h : r < 3) (w : World) : Sem.run Tryd.prog (Instr.index 28 (.agg #[.string ⟨#[40]⟩, .string ⟨#[91]⟩, .string ⟨#[123]⟩]) (.int .u8 r)) w = .ok (.string (ofL (sg opL r))) w := by
  obtain rfl | rfl | rfl : r = 0 ∨ r = 1 ∨ r = 2 := by omega
  all_goals kernel_rfl
theorem wrap_u8 (r : Nat) (h : r < 3) : IntKind.u8.wrap (r : Int) = (r : Int) := by
  obtain rfl | rfl | rfl : r = 0 ∨ r = 1 ∨ r = 2 := by omega
  all_goals decide
theorem opL_ok (r : Nat) (h : r < 3) : (sg opL r).length = 1 ∧ isSign (sg opL r) = true ∧ closerOf (sg opL r) ≠ [] := by
  have : ∀ j : Fin 3, (sg opL j.val).length = 1 ∧ isSign (sg opL j.val) = true ∧ closerOf (sg opL j.val) ≠ [] := by decide
  exact this ⟨r, h⟩
theorem open_at {x : Bs} (h : closerOf x ≠ []) : ∃ K, K < 3 ∧ x = sg opL K ∧ closerOf x = sg clL K := by
  rcases closerOf_cases x with ⟨a, b⟩ | ⟨a, b⟩ | ⟨a, b⟩ | ⟨_, _, _, b⟩
  · exact ⟨0, by omega, a, b⟩
  · exact ⟨1, by omega, a, b⟩
  · exact ⟨2, by omega, a, b⟩
  · exact absurd b h
theorem U8s.cellAt {w : World} {b o n c k : Nat} {l : Bs} (h : U8s w (.slice (some ⟨b, o, none⟩) n c) l) (hk : k < l.length) : w.cell? ⟨b, o + k, none⟩ = some (.int .u8 (gt l k).toNat) := by
  obtain ⟨b', o', h', hr⟩ := h.rowA (by omega)
  injection h' with h'
  injection h' with h1 h2
  subst h1 h2
  exact hr.at_ k hk
theorem below5 (w : World) (a b c d e : Obj) : Below w.heap.size w (((((w.alloc a).alloc b).alloc c).alloc d).alloc e) := by
  have h1 : Below w.heap.size w (w.alloc a) := (Below.refl _ _).alloc (Nat.le_refl _) a
  have h2 : Below w.heap.size w ((w.alloc a).alloc b) := h1.alloc h1.size b
  have h3 : Below w.heap.size w (((w.alloc a).alloc b).alloc c) := h2.alloc h2.size c
  have h4 : Below w.heap.size w ((((w.alloc a).alloc b).alloc c).alloc d) := h3.alloc h3.size d
  exact h4.alloc h4.size e
theorem opL_ne : ∀ j : Fin 3, ∀ k : Fin 3, (sg opL k.val == sg opL j.val) = decide (k = j) := by decide
theorem int_infoP : (Tryd.prog.info? 3).map (fun i => (i.zero, i.size, i.bytes)) = some (some (.int .i64 0), 1, 8) := by kernel_rfl
theorem made_close : madeCells #[.int .i64 0] 130 = closeArr fun _ => 0 := by kernel_rfl
theorem rowCells_take (l : List Mist.Tok) : ∀ a : Nat, (rowCells l).take (a * 3) = rowCells (l.take a) := by
  induction l with
  | nil => intro a; simp [rowCells]
  | cons t r ih =>
    intro a
    cases a with
    | zero => simp [rowCells]
    | succ a =>
      have e : rowCells (t :: r) = tokCells t ++ rowCells r := by simp [rowCells]
      have e2 : rowCells (t :: r.take a) = tokCells t ++ rowCells (r.take a) := by simp [rowCells]
      rw [e, List.take_succ_cons, e2, ← ih a, List.take_append]
      have h3 : (tokCells t).length = 3 := rfl
      rw [h3, List.take_of_length_le (by rw [h3]; omega), show (a + 1) * 3 - 3 = a * 3 by omega]
theorem own_take {W : World} {B g n c a : Nat} {l : List Mist.Tok} (h : W.ownsRow B 26 3 (.slice (some ⟨g, 0, none⟩) n c) n (rowCells l)) (ha : a ≤ n) : W.ownsRow B 26 3 (.slice (some ⟨g, 0, none⟩) a c) a (rowCells (l.take a)) := by
  obtain ⟨h1, h2⟩ := h
  rcases h2 with ⟨h', _⟩ | ⟨g', cap', cur, h', hb, hg, hnc, hcm, hcs, htake⟩
  · simp at h'
  · simp only [Value.slice.injEq, Option.some.injEq, Addr.mk.injEq, and_true, true_and] at h'
    obtain ⟨rfl, rfl⟩ := h'
    refine ⟨?_, .inr ⟨g, c, cur, rfl, hb, hg, Nat.le_trans ha hnc, hcm, hcs, ?_⟩⟩
    · rw [← rowCells_take, List.length_take, h1]; omega
    · rw [← rowCells_take, ← htake, List.take_take, Nat.min_eq_left (by omega)]
theorem row_set (m : List Mist.Tok) (a : Nat) (hm : m.length = a) (x y : Bs) : (rowCells m ++ tokCells ⟨4, x, 1000⟩).set (a * 3 + 1) (.string (ofL y)) = rowCells (m ++ [⟨4, y, 1000⟩]) := by
  have h3 : (rowCells m).length = a * 3 := by rw [rowCells_len, hm]
  rw [List.set_append_right _ _ (by omega), h3, show a * 3 + 1 - a * 3 = 1 by omega, rowCells_append]
  simp [rowCells, tokCells]
/-- own, with the row that it makes. -/
theorem own_row (v : Value) (l : List Mist.Tok) (w : World) (hv : Toks w v l) (hl : l.length ≤ 100000) :
    Calls Tryd.prog 6 #[v] w fun e w' => ∃ v, e = .returned v ∧ w'.ownsRow w.heap.size 26 3 v l.length (rowCells l) ∧ Below w.heap.size w w' := by
  obtain ⟨A, c, rfl, hc, hr⟩ := hv
  have HR := Lib.hid hr; clear hr
  obtain ⟨i0, hi0, hz0, hz1, hz2⟩ := info_parts token_info
  go_enter Tryd.func6, Tryd.ntmps6
  go_wp2_with (at_builtin
               refine wpList_append_any _ rfl (.tmp 3) (.tmp 4) 23 rfl w.heap.size 26 i0 _ 3 32 Tryd.underlying23 hi0 hz0 hz1 hz2 rfl (by decide) _ 0 [] rfl
                 (World.ownsRow_made _ _ _ (Nat.le_refl _) (by simp [maxLen]) rfl) w.heap.size A l.length c (rowCells l) rfl (HR.out.alloc (Nat.le_refl _) _) (rowCells_one l) (by simp only [maxLen]; omega) (by omega) (by simp) ?_
               intro v2 w2 hown2 hg2 _)
  go_ret
  refine ⟨_, rfl, by simpa using hown2, ?_⟩
  exact ((Below.refl _ _).alloc (Nat.le_refl _) _).grown hg2 (by simp) (fun k hk => by have h : (some w.heap.size : Option Nat) = some k := hk; injection h with h; omega)
set_option maxRecDepth 100000 in
set_option maxHeartbeats 4000000 in
theorem pairs_law (v0 : Value) (by_ : Bs) (v : Nat) (w : World) (hE : Env w) (hu : U8s w v0 by_) (hl : by_.length ≤ 4611686018427387904) (hv : v < 256) :
    Calls Tryd.prog 3 #[v0, .int .u8 v] w fun e w' => e = .returned (.bool true) ∧ Below w.heap.size w w' := by
  have HE := Lib.hid hE; clear hE
  have HU := Lib.hid hu
  obtain ⟨A0, c0, rfl, _, _⟩ := hu
  go_enter Tryd.func3, Tryd.ntmps3
  go_upto_region 1 with (fail)
  have hmk : ∀ W, (Instr.makeSlice 24 (.int .i64 130) (.int .i64 130)).run Tryd.prog W = .ok (.slice (some ⟨W.heap.size, 0, none⟩) 130 130) (W.alloc (.cells (closeArr fun _ => 0) 3)) := fun W => by
    rw [← made_close]; exact run_make_row' (P := Tryd.prog) 24 3 (.int .i64 0) 8 Tryd.underlying24 int_infoP rfl .i64 .i64 130 (by omega) (by omega) W
  go_cut [5, 6, 7, 8] from 24 to 26 (fun a b c d wx => ∃ (g5 g8 gc : Nat) (v5 v6 : Value), a = .pointer (some ⟨g5, 0, none⟩) ∧ b = v6 ∧ c = .slice (some ⟨gc, 0, none⟩) 130 130 ∧ d = .pointer (some ⟨g8, 0, none⟩) ∧ PB w.heap.size w wx g5 g8 gc v5 v6 [] [] (fun _ => 0))
  case first =>
    go_region
    all_goals
      go_wp2_with fail
      go_meet
      (repeat apply Exists.intro)
      refine ⟨rfl, rfl, rfl, rfl, ?_⟩
      apply PB.init
      focus (refine Blk.drew ?_; (first | (refine blk_topP ?_; simp; done) | (refine Blk.alloc ?_ _; (first | (refine blk_topP ?_; simp; done) | (refine Blk.alloc ?_ _; (first | (refine blk_topP ?_; simp; done) | (refine Blk.alloc ?_ _; (first | (refine blk_topP ?_; simp; done) | (refine Blk.alloc ?_ _; (refine blk_topP ?_; simp; done))))))))))
      all_goals first
        | omega
        | (refine Blk.drew ?_; (first | (refine blk_topP ?_; simp; done) | (refine Blk.alloc ?_ _; (first | (refine blk_topP ?_; simp; done) | (refine Blk.alloc ?_ _; (first | (refine blk_topP ?_; simp; done) | (refine Blk.alloc ?_ _; (first | (refine blk_topP ?_; simp; done) | (refine Blk.alloc ?_ _; (refine blk_topP ?_; simp; done))))))))))
        | exact Below.drew (below5 _ _ _ _ _ _)
  case rest =>
    obtain ⟨g5, g8, gc, v5, v6, rfl, rfl, rfl, rfl, hpb⟩ := hcut
    have HPB := Lib.hid hpb
    clear hpb hmk
    go_upto_block 0 with fail
    go_cut [6, 10, 11, 12] from 28 to 102 (fun o _ _ _ wx => ∃ (v5 : Value) (l : List Mist.Tok) (op : List Nat) (cl : Nat → Nat), l.length ≤ 60 ∧ Hid (Paired l op cl) ∧ Hid (PB w.heap.size w wx g5 g8 gc v5 o l op cl))
    case first =>
      go_wp2_with fail
      go_loopw [6, 10] (fun o iv wr => ∃ (n : Nat) (v5 : Value) (l : List Mist.Tok) (op : List Nat) (cl : Nat → Nat), n ≤ 60 ∧ n ≤ by_.length ∧ iv = .int .i64 n ∧ l.length ≤ n ∧ op.length ≤ n ∧ Hid (Paired l op cl) ∧ Hid (PB w.heap.size w wr g5 g8 gc v5 o l op cl)) (fun _ iv _ => by_.length - (intOf iv).toNat)
      case atStart => exact ⟨0, v5, [], [], fun _ => 0, by omega, by omega, rfl, by simp, by simp, Lib.hid Paired.nil, HPB⟩
      case round =>
        obtain ⟨n, u5, l, op, cl, hn1, hn2, rfl, hln, hon, HPR, HPW⟩ := hrel
        clear HPB
        obtain ⟨Ao, co, rfl⟩ := own_form HPW.out.opn
        obtain ⟨A5, c5, rfl⟩ := own_form HPW.out.own
        obtain ⟨N, hN⟩ : ∃ N, N = op.length := ⟨_, rfl⟩
        obtain ⟨L, hL⟩ : ∃ L, L = l.length := ⟨_, rfl⟩
        rw [← hN] at HPW hon ⊢
        rw [← hL] at HPW hln
        have HN := Lib.hid hN
        have HL := Lib.hid hL
        clear hN hL
        by_cases hlt : n < by_.length ∧ n < 60
        case neg =>
          have fin : ∃ (v5 : Value) (l : List Mist.Tok) (op : List Nat) (cl : Nat → Nat), l.length ≤ 60 ∧ Hid (Paired l op cl) ∧ Hid (PB w.heap.size w wr g5 g8 gc v5 (.slice Ao N co) l op cl) := ⟨_, l, op, cl, by have := HL.out; omega, HPR, HPW⟩
          have HFI := Lib.hid fin
          clear fin HPR HPW HN HL hln hon
          by_cases hb : n < by_.length
          · have z1 : (n : Int) < (by_.length : Int) := by omega
            have z2 : ¬ (n : Int) < 60 := by omega
            clear hlt
            go_wp2_with fail
            go_meet
            exact HFI.out
          · have z1 : ¬ (n : Int) < (by_.length : Int) := by omega
            clear hlt
            go_wp2_with fail
            go_meet
            exact HFI.out
        obtain ⟨bu, ou, hA, hr⟩ := (HU.out.below HPW.out.bel).rowA (by omega)
        subst hA
        obtain ⟨x, hx⟩ : ∃ x : Nat, x = (gt by_ n).toNat := ⟨_, rfl⟩
        have hx6 : x < 256 := by rw [hx]; exact (gt by_ n).toNat_lt
        have cx := hr.at_ n hlt.1
        rw [← hx] at cx
        have hlu := hr.lt
        have HX := Lib.hid hx
        clear hr hx
        have t5 := HPW.out.b5.cell 0
        have z0 : (0 : Int) ≤ (n : Int) := by omega
        have z1 : (n : Int) < (by_.length : Int) := by omega
        have z2 : (n : Int) < 60 := by omega
        have z3 : n < by_.length := hlt.1
        clear hlt
        by_cases h150 : 150 ≤ x ∧ 0 < N
        · obtain ⟨m, rfl⟩ : ∃ m, N = m + 1 := ⟨N - 1, by omega⟩
          have y1 : (150 : Int) ≤ (x : Int) := by omega
          have y2 : (0 : Int) < ((m + 1 : Nat) : Int) := by omega
          obtain ⟨op', q, hop⟩ : ∃ op' q, op = op' ++ [q] := by
            rcases List.eq_nil_or_concat op with h | ⟨a, b, h⟩
            · have := HN.out; rw [h] at this; simp at this
            · exact ⟨a, b, by rw [h, List.concat_eq_append]⟩
          subst hop
          have hm : m = op'.length := by have := HN.out; simp at this; omega
          obtain ⟨hq1, hq2, hq3⟩ := HPR.out.opn q (by simp)
          have hqL : q < L := by rw [HL.out]; exact hq1
          obtain ⟨go, cap, hv⟩ : ∃ go cap, Value.slice Ao (m + 1) co = .slice (some ⟨go, 0, none⟩) (m + 1) cap := by
            have h := HPW.out.opn
            rw [← HN.out] at h
            obtain ⟨go, cap, hv, _⟩ := h.form (by omega)
            exact ⟨go, cap, hv⟩
          injection hv with hv1 _ hv2
          subst hv1
          have co_m : wr.cell? ⟨go, m, none⟩ = some (.int .i64 (q : Nat)) := by
            have h := HPW.out.opn
            rw [← HN.out] at h
            have := h.cellAt m (by omega)
            rw [this, hm]; simp [natCells]
          have cc_q := HPW.out.cls.cell q
          rw [closeArr_get cl q (by omega)] at cc_q
          have fc_q := HPW.out.cls.frozen q
          have hwm : IntKind.i64.wrap ((m : Int) + 1 - 1) = (m : Int) := by rw [IntWalk.i64_in _ (by omega)]; omega
          have y3 : (0 : Int) ≤ (m : Int) := by omega
          have y4 : (m : Int) < (m : Int) + 1 := by omega
          have y5 : (0 : Int) ≤ (q : Int) := by omega
          have y6 : (q : Int) < 130 := by omega
          have HM := Lib.hid hm
          clear hm hv2
          go_upto_region 8 with (fail)
          go_region
          have HW1 := Lib.hid (show PB w.heap.size w (wr.setCell ⟨gc, q, none⟩ (.int .i64 (L : Nat))).drew g5 g8 gc _ _ _ _ _ from (HPW.out.close q L).drewN 1)
          generalize (wr.setCell ⟨gc, q, none⟩ (.int .i64 (L : Nat))).drew = w1 at HW1 ⊢
          obtain ⟨K, hK, hKt, hKc⟩ := open_at hq2
          have HKT := Lib.hid hKt
          have HKC := Lib.hid hKc
          obtain ⟨bt, hv⟩ : ∃ bt, A5 = some ⟨bt, 0, none⟩ := by
            have h := HW1.out.own
            rw [← HL.out] at h
            obtain ⟨bt, cap, hv, _⟩ := h.form (by omega)
            injection hv with hv1
            exact ⟨bt, hv1⟩
          subst hv
          clear hKt hKc HPW cx hlu t5 co_m cc_q fc_q
          go_upto_block 2 with fail
          go_cut [12] from 58 to 72 (fun kv wx => kv = .int .i64 (K : Nat) ∧ Hid (PB w.heap.size w wx g5 g8 gc (.slice (some ⟨bt, 0, none⟩) L c5) (.slice (some ⟨go, 0, none⟩) (m + 1) co) l (op' ++ [q]) (setAt cl q L)))
          case first =>
            go_wp2_with fail
            go_loopw [12] (fun kv wx => ∃ k : Nat, k ≤ K ∧ kv = .int .i64 k ∧ Hid (PB w.heap.size w wx g5 g8 gc (.slice (some ⟨bt, 0, none⟩) L c5) (.slice (some ⟨go, 0, none⟩) (m + 1) co) l (op' ++ [q]) (setAt cl q L))) (fun kv _ => 3 - (intOf kv).toNat)
            case atStart => exact ⟨0, Nat.zero_le _, rfl, HW1⟩
            case round =>
              clear HX
              obtain ⟨k, hk, rfl, HX⟩ := hrel
              have hk3 : k < 3 := by omega
              have idx := run_op k hk3
              have t5 := HX.out.b5.cell 0
              have co_m := HX.out.top HM.out
              have tk : wr.cell? ⟨bt, q * 3 + 1, none⟩ = some (.string (ofL (sg opL K))) := by
                have h := HX.out
                rw [HL.out] at h
                rw [h.tok hq1, HKT.out]
              have y7 : (q : Int) < (L : Int) := by omega
              have hne := opL_ne ⟨k, hk3⟩ ⟨K, hK⟩
              by_cases hkK : k = K
              · have e1 : (sg opL K == sg opL k) = true := by rw [hne]; simp [hkK]
                clear hne
                subst hkK
                go_wp2_with fail
                go_quiet (fail)
                go_wp2_with fail
                go_meet
                exact ⟨rfl, Lib.hid (HX.out.drewN _)⟩
              · have e1 : (sg opL K == sg opL k) = false := by rw [hne]; simp; omega
                clear hne
                go_wp2_with fail
                go_quiet (fail)
                go_wp2_with fail
                exact ⟨⟨k + 1, by omega, by go_num, Lib.hid (HX.out.drewN _)⟩, by simp [intOf]; omega⟩
          case rest =>
            clear HX
            obtain ⟨rfl, HX⟩ := hcut
            have idx := run_cl K hK
            have hkl : (sg clL K).length = 1 := by
              have : ∀ j : Fin 3, (sg clL j.val).length = 1 := by decide
              exact this ⟨K, hK⟩
            have hkc : (0 : Int) ≤ (K : Int) := by omega
            have HX2 := Lib.hid (show PB w.heap.size w wc g5 g8 gc (.slice (some ⟨bt, 0, none⟩) L c5) (.slice (some ⟨go, 0, none⟩) m co) l op' (setAt cl q L) from by
              have h := HX.out
              rw [HM.out] at h ⊢
              exact h.cut)
            have hmc : m + 1 ≤ co := by
              have h := HX.out.opn
              rw [← HN.out] at h
              exact own_le h
            have y8 : (m : Int) ≤ (co : Int) := by omega
            clear HX hmc
            go_wp2_with fail
            refine (pairPut_any (sg clL K) hkl w.heap.size g5 g8 gc w wc (.slice (some ⟨bt, 0, none⟩) L c5) (.slice (some ⟨go, 0, none⟩) m co) l op' (setAt cl q L) (by have := HL.out; omega) HX2.out).mono ?_
            rintro e w3 ⟨rfl, v2, hpb⟩
            have HP3 := Lib.hid hpb
            have HPC := Lib.hid (show Paired (l ++ [⟨4, sg clL K, 2 * (l.length : Int)⟩]) op' (setAt cl q L) from by
              rw [HL.out]
              refine HPR.out.closes (sg clL K) ?_ HKC.out
              have : ∀ j : Fin 3, isSign (sg clL j.val) = true := by decide
              exact this ⟨K, hK⟩)
            clear hpb HX2 HKT HKC
            go_wp2_with fail
            exact ⟨⟨n + 1, v2, _, op', setAt cl q L, by omega, by omega, by go_num, by simp; have := HL.out; omega, by have := HM.out; omega, HPC, HP3⟩, by simp [intOf]; omega⟩
        by_cases h100 : 100 ≤ x
        · have y1 : (100 : Int) ≤ (x : Int) := by omega
          have HP3 := fun W (h : PB w.heap.size w W g5 g8 gc (.slice A5 L c5) (.slice Ao N co) l op cl) => pairPut_any [43] rfl w.heap.size g5 g8 gc w W (.slice A5 L c5) (.slice Ao N co) l op cl (by have := HL.out; omega) h
          have HP := Lib.hid HP3
          clear HP3
          by_cases h15 : 150 ≤ x
          · obtain rfl : N = 0 := by omega
            have y2 : (150 : Int) ≤ (x : Int) := by omega
            clear h150
            go_wp2_with fail
            refine (HP.out _ HPW.out).mono ?_
            rintro e w3 ⟨rfl, v2, hpb⟩
            have HP3 := Lib.hid hpb
            clear hpb HP
            go_wp2_with fail
            exact ⟨⟨n + 1, v2, _, op, cl, by omega, by omega, by go_num, by simp; have := HL.out; omega, by have := HN.out; omega, Lib.hid (HPR.out.plus), HP3⟩, by simp [intOf]; omega⟩
          · have y2 : ¬ (150 : Int) ≤ (x : Int) := by omega
            clear h150
            go_wp2_with fail
            refine (HP.out _ HPW.out).mono ?_
            rintro e w3 ⟨rfl, v2, hpb⟩
            have HP3 := Lib.hid hpb
            clear hpb HP
            go_wp2_with fail
            exact ⟨⟨n + 1, v2, _, op, cl, by omega, by omega, by go_num, by simp; have := HL.out; omega, by have := HN.out; omega, Lib.hid (HPR.out.plus), HP3⟩, by simp [intOf]; omega⟩
        · have y1 : ¬ (100 : Int) ≤ (x : Int) := by omega
          have y2 : ¬ (150 : Int) ≤ (x : Int) := by omega
          obtain ⟨j0, hj0, hw0, hw1, hw2⟩ := info_parts int_infoP
          have HOP := Lib.hid (show wr.ownsRow w.heap.size 3 1 (.slice Ao N co) N (natCells op) from by rw [HN.out]; have h := HPW.out.opn; rw [← HN.out] at h ⊢; exact h)
          have hsz := HPW.out.le
          clear h150 h100
          obtain ⟨r, hr⟩ : ∃ r, r = x % 3 := ⟨_, rfl⟩
          have hr3 : r < 3 := by omega
          have hrm : Int.tmod (x : Int) 3 = (r : Int) := by rw [Int.tmod_eq_emod_of_nonneg (by omega), hr]; omega
          have hrw := wrap_u8 r hr3
          have idx := run_op8 r hr3
          clear hr
          have HB0 := Lib.hid (HPW.out.b5)
          go_upto_region 16 with (fail)
          go_upto_region 17 with (at_builtin; go_loud (
                 refine wpList_append_own_at _ rfl (.tmp 89) (.tmp 92) 24 rfl w.heap.size 3 j0 _ 1 8 Tryd.underlying24 hj0 hw0 hw1 hw2 rfl (by decide) _ N (natCells op) rfl (HOP.out.alloc _) ⟨wr.heap.size, 0, none⟩ 1 1 [.int .i64 (L : Nat)] rfl rfl (cells_new _ _ _) (by intro u hu; simp at hu; subst hu; rfl) (by simp only [maxLen]; omega) (by omega) (by simp; omega) ?_
                 intro v2 w2 hown2 hg2 _ hat
                 obtain ⟨A2, c2, rfl⟩ := own_form hown2))
          have HP2 := Lib.hid (show PB w.heap.size w w2 g5 g8 gc (.slice A5 L c5) (.slice A2 (N + 1) c2) l (op ++ [L]) cl from PB.open_ HPW.out _ hg2 (by rw [← HN.out]; exact hown2) hat)
          obtain ⟨hl1, hi1, ho1⟩ := opL_ok r hr3
          have HPC := Lib.hid (show Paired (l ++ [⟨4, sg opL r, 2 * (l.length : Int)⟩]) (op ++ [L]) cl from by rw [HL.out]; exact HPR.out.opens (sg opL r) hi1 ho1)
          have cx2 : w2.cell? ⟨bu, ou + n, none⟩ = some (.int .u8 (x : Nat)) := by
            rw [(HU.out.below HP2.out.bel).cellAt z3, ← HX.out]
          clear hown2 hg2 hat HOP HPW HB0 cx t5 hi1 ho1
          go_wp2_with fail
          refine (pairPut_any (sg opL r) hl1 w.heap.size g5 g8 gc w w2 (.slice A5 L c5) (.slice A2 (N + 1) c2) l (op ++ [L]) cl (by have := HL.out; omega) HP2.out).mono ?_
          rintro e w3 ⟨rfl, v2, hpb⟩
          have HP3 := Lib.hid hpb
          clear hpb HP2
          go_wp2_with fail
          exact ⟨⟨n + 1, v2, _, op ++ [L], cl, by omega, by omega, by go_num, by simp; have := HL.out; omega, by simp; have := HN.out; omega, HPC, by first | exact HP3 | (trace_state; done)⟩, by simp [intOf]; omega⟩
    case rest =>
      obtain ⟨u5, l, op, cl, hl6, HPR, HPW⟩ := hcut
      clear HPB HU
      obtain ⟨A5, c5, rfl⟩ := own_form HPW.out.own
      obtain ⟨L, hL⟩ : ∃ L, L = l.length := ⟨_, rfl⟩
      have HTK := Lib.hid (Toks.of_own HPW.out.own)
      have H5 := Lib.hid HPW.out.b5
      have HC := Lib.hid HPW.out.cls
      have HLW := Lib.hid HPW.out.bel
      have h5l := HPW.out.b5.lt
      have hcl := HPW.out.cls.lt
      have hok := HPR.out.ok (by omega)
      have HOK := Lib.hid hok
      rw [← hL] at H5 HTK hl6
      have HL := Lib.hid hL
      clear hL hok
      go_wp2_with fail
      go_loopw [13] (fun iv wr => ∃ i : Nat, i ≤ L ∧ iv = .int .i64 i ∧ Hid (Below wc.heap.size wc wr)) (fun iv _ => L - (intOf iv).toNat)
      case atStart => exact ⟨0, Nat.zero_le _, rfl, Lib.hid (Below.refl _ _)⟩
      case round =>
        obtain ⟨i, hi, rfl, HB⟩ := hrel
        have H5r := Lib.hid (H5.out.below HB.out h5l)
        have t5 := H5r.out.cell 0
        by_cases hlt : i < L
        case neg =>
          obtain rfl : L = i := by omega
          clear hlt
          have HLR := Lib.hid (HLW.out.trans (HB.out.mono HLW.out.size))
          have HC4 := Lib.hid (HC.out.below HB.out hcl)
          have cc := HC4.out.cell 0
          rw [closeArr_get cl 0 (by omega)] at cc
          have HPW' := Lib.hid (show wr.ownsRow w.heap.size 26 3 (.slice A5 L c5) L (rowCells l) from by rw [HL.out]; exact own_below HPW.out.own HB.out)
          by_cases hL0 : L = 0
          · have z0 : ((L : Int) == 0) = true := by simp [hL0]
            clear hL0
            go_wp2_with fail
            refine (known_any _ (HE.out.below HLR.out)).mono ?_
            rintro e wk ⟨rfl, hbk⟩
            have HLK := Lib.hid (HLR.out.trans (hbk.mono HLR.out.size)); clear hbk
            go_wp2_with fail
            go_ret
            exact ⟨by first | rfl | simp, HLK.out⟩
          have z0 : ((L : Int) == 0) = false := by simpa using hL0
          by_cases hm0 : cl 0 = 0
          · rw [hm0] at cc
            clear hm0 hL0
            go_wp2_with fail
            refine (known_any _ (HE.out.below HLR.out)).mono ?_
            rintro e wk ⟨rfl, hbk⟩
            have HLK := Lib.hid (HLR.out.trans (hbk.mono HLR.out.size)); clear hbk
            go_wp2_with fail
            go_ret
            exact ⟨by first | rfl | simp, HLK.out⟩
          obtain ⟨h1, h2, h3, _, _⟩ := HPR.out.hit 0 hm0
          have HM0 := Lib.hid hm0
          obtain ⟨m, hm⟩ : ∃ m, m = cl 0 := ⟨_, rfl⟩
          rw [← hm] at cc h1 h2
          have z1 : ((m : Int) == 0) = false := by
            have : m ≠ 0 := by omega
            simpa using this
          have hmL : m < L := by have := HL.out; omega
          obtain ⟨r, hr⟩ : ∃ r, r = v % m := ⟨_, rfl⟩
          have hrl : r < m := by rw [hr]; exact Nat.mod_lt _ (by omega)
          have hrm : Int.tmod (v : Int) (m : Int) = (r : Int) := by rw [Int.tmod_eq_emod_of_nonneg (by omega), hr, Int.natCast_emod]
          obtain ⟨a, ha⟩ : ∃ a, a = 1 + r := ⟨_, rfl⟩
          have hwa : IntKind.i64.wrap (1 + (r : Int)) = (a : Int) := by rw [IntWalk.i64_in _ (by omega)]; omega
          have ha1 : 1 ≤ a := by omega
          have ham : a ≤ m := by omega
          have HMC := Lib.hid hm
          clear hm hr ha hm0 hL0
          obtain ⟨bt, hA⟩ : ∃ bt, A5 = some ⟨bt, 0, none⟩ := by
            obtain ⟨bt, cap, hv, _⟩ := HPW'.out.form (by omega)
            injection hv with hv1
            exact ⟨bt, hv1⟩
          subst hA
          have hac : a ≤ c5 := Nat.le_trans (by omega) (own_le HPW'.out)
          have y2 : (0 : Int) ≤ (a : Int) := by omega
          have y3 : (a : Int) ≤ (c5 : Int) := by omega
          have HTA := Lib.hid (show Toks wr (.slice (some ⟨bt, 0, none⟩) a c5) (l.take a) from by
            have h := own_take HPW'.out (a := a) (by omega)
            have e : (l.take a).length = a := by rw [List.length_take]; have := HL.out; omega
            refine Toks.of_own (base := w.heap.size) ?_
            rw [e]; exact h)
          obtain ⟨i0, hi0, hz0, hz1, hz2⟩ := info_parts token_info
          have hla : (l.take a).length = a := by rw [List.length_take]; have := HL.out; omega
          have HLA := Lib.hid hla
          clear hla
          go_wp2_with fail
          refine (own_row _ (l.take a) _ HTA.out (by have := HLA.out; omega)).mono ?_
          rintro e w3 ⟨v3, rfl, ho3, hb3⟩
          rw [HLA.out] at ho3
          have HO3 := Lib.hid ho3
          have hs3 := hb3.size
          have HB3 := Lib.hid hb3
          clear ho3 hb3
          go_upto_region 38 with (at_builtin; go_loud (
               refine wpList_append_own _ rfl (.tmp 196) (.tmp 198) 23 rfl wr.heap.size 26 i0 _ 3 32 Tryd.underlying23 hi0 hz0 hz1 hz2 rfl (by decide) _ a (rowCells (l.take a)) rfl (HO3.out.alloc _) ⟨w3.heap.size, 0, none⟩ 1 1 (tokCells ⟨4, [93], 1000⟩) rfl rfl (cells_new w3 (tokCells ⟨4, [93], 1000⟩) _) (tokCells_one _) (by simp only [maxLen]; omega) (by omega) (by simp; omega) ?_
               intro v2 w4 hown2 hg2 _))
          have HG4 := Lib.hid (Below.grown (HB3.out.alloc HB3.out.size _) hg2 (by simp; omega) (fun k hk => (HO3.out.lt k hk).1))
          obtain ⟨gw, cw, hv2⟩ : ∃ gw cw, v2 = .slice (some ⟨gw, 0, none⟩) (a + 1) cw := by
            obtain ⟨gw, cw, hv, _⟩ := hown2.form (by omega)
            exact ⟨gw, cw, hv⟩
          subst hv2
          have HO4 := Lib.hid hown2
          clear hown2 hg2 HO3
          have H54 := Lib.hid ((H5.out.below HB.out h5l).below HG4.out (Nat.lt_of_lt_of_le h5l HB.out.size))
          have t5' := H54.out.cell 0
          have HP4 := Lib.hid (own_below HPW'.out HG4.out)
          have tk0 : w4.cell? ⟨bt, 1, none⟩ = some (.string (ofL (tg l 0).text)) := by
            rw [HP4.out.cellAt 1 (by omega)]
            exact rowCells_at l 0 1 _ (by have := HL.out; omega) rfl
          obtain ⟨x0, hx0⟩ : ∃ x0, x0 = (tg l 0).text := ⟨_, rfl⟩
          rw [← hx0] at tk0 h3
          have HX0 := Lib.hid hx0
          clear hx0
          go_upto_if 204 with fail
          obtain ⟨gg, hgg⟩ : ∃ gg, gg = (x0 == [91]) := ⟨_, rfl⟩
          rw [← hgg]
          have HGG := Lib.hid hgg
          clear hgg
          go_cut [] from 205 to 208 (fun wx => ∃ x : Bs, Hid (x ≠ closerOf x0 ∧ isSign x = true ∧ isCloser x = true) ∧ Hid (wx.ownsRow wr.heap.size 26 3 (.slice (some ⟨gw, 0, none⟩) (a + 1) cw) (a + 1) (rowCells (l.take a ++ [⟨4, x, 1000⟩]))) ∧ Hid (Below wr.heap.size wr wx))
          case first =>
            by_cases ht : x0 = [91]
            · obtain rfl : gg = true := by rw [HGG.out, ht]; rfl
              have HNE := Lib.hid (show ([41] : Bs) ≠ closerOf x0 ∧ isSign [41] = true ∧ isCloser [41] = true by rw [ht]; decide)
              have cs : w4.cell? ⟨gw, a * 3 + 1, none⟩ = some (.string (ofL [93])) := by
                rw [HO4.out.cellAt (a * 3 + 1) (by omega), List.getElem?_append_right (by rw [rowCells_len, HLA.out]; omega), rowCells_len, HLA.out, show a * 3 + 1 - a * 3 = 1 by omega]
                rfl
              have fs := HO4.out.frozenAt (a * 3 + 1)
              have HST := Lib.hid (show (w4.setCell ⟨gw, a * 3 + 1, none⟩ (.string (ofL [41]))).ownsRow wr.heap.size 26 3 (.slice (some ⟨gw, 0, none⟩) (a + 1) cw) (a + 1) (rowCells (l.take a ++ [⟨4, [41], 1000⟩])) from by
                have h := (HO4.out.stored (a * 3 + 1) (.string (ofL [41]))).1
                rw [row_set _ _ HLA.out] at h
                exact h)
              have hgw := (HO4.out.lt gw rfl).1
              have y6 : (a : Int) < (a : Int) + 1 := by omega
              clear ht
              go_wp2_with fail
              go_meet
              exact ⟨[41], HNE, HST, Lib.hid (HG4.out.setCell (p := ⟨gw, _, none⟩) hgw _)⟩
            · obtain rfl : gg = false := by rw [HGG.out]; simpa using ht
              have HNE := Lib.hid (show ([93] : Bs) ≠ closerOf x0 ∧ isSign [93] = true ∧ isCloser [93] = true by
                refine ⟨?_, by decide, by decide⟩
                rcases closerOf_cases x0 with ⟨p, q⟩ | ⟨p, q⟩ | ⟨p, q⟩ | ⟨_, _, _, q⟩
                · rw [q]; decide
                · exact absurd p ht
                · rw [q]; decide
                · exact absurd q h3)
              have HST := Lib.hid (show w4.ownsRow wr.heap.size 26 3 (.slice (some ⟨gw, 0, none⟩) (a + 1) cw) (a + 1) (rowCells (l.take a ++ [⟨4, [93], 1000⟩])) from by
                have h := HO4.out
                rw [rowCells_append]
                simpa [rowCells] using h)
              clear ht
              go_wp2_with fail
              go_meet
              exact ⟨[93], HNE, HST, HG4⟩
          case rest =>
            obtain ⟨x, HXX, HO5, HB5⟩ := hcut
            clear HO4 HG4 HP4 H54 t5' tk0 HB3 HTA H5r HC4 cc
            obtain ⟨W0, rfl⟩ : ∃ W0 : World, W0 = wr := ⟨_, rfl⟩
            have H50 := Lib.hid (H5.out.below HB.out h5l)
            have h50 := H50.out.lt
            go_wp2_with fail
            go_loopw [19, 20] (fun wv iv wy => ∃ i : Nat, a ≤ i ∧ i ≤ L ∧ iv = .int .i64 i ∧ Hid (wy.ownsRow W0.heap.size 26 3 wv (i + 1) (rowCells (l.take a ++ ⟨4, x, 1000⟩ :: ((l.take i).drop a).map movedT))) ∧ Hid (Below W0.heap.size W0 wy)) (fun _ iv _ => L - (intOf iv).toNat)
            case atStart =>
              exact ⟨a, Nat.le_refl _, by omega, rfl, Lib.hid (by
                have e : (l.take a).drop a = [] := by simp
                rw [e]; exact HO5.out), HB5⟩
            case round =>
              obtain ⟨i, hi1, hi2, rfl, HOi, HBi⟩ := hrel
              clear HO5 HB5
              obtain ⟨Aw, cw', rfl⟩ := own_form HOi.out
              have H5i := Lib.hid (H50.out.below HBi.out h50)
              have t5 := H5i.out.cell 0
              by_cases hiL : i < L
              · have HPi := Lib.hid (own_below HPW'.out HBi.out)
                obtain ⟨⟨kd, tx, z⟩, hT⟩ : ∃ T, T = tg l i := ⟨_, rfl⟩
                obtain ⟨q1, q2, _⟩ := HPR.out.toks i (by have := HL.out; omega)
                rw [← hT] at q1 q2
                simp only at q1 q2
                have c0' : wr.cell? ⟨bt, i * 3, none⟩ = some (.int .u8 kd) := by
                  have h := HPi.out.cellAt (i * 3) (by omega)
                  rw [h]; exact rowCells_at l i 0 _ (by have := HL.out; omega) (by rw [← hT]; rfl)
                have c1' : wr.cell? ⟨bt, i * 3 + 1, none⟩ = some (.string (ofL tx)) := by
                  have h := HPi.out.cellAt (i * 3 + 1) (by omega)
                  rw [h]; exact rowCells_at l i 1 _ (by have := HL.out; omega) (by rw [← hT]; rfl)
                have c2' : wr.cell? ⟨bt, i * 3 + 2, none⟩ = some (.int .i64 z) := by
                  have h := HPi.out.cellAt (i * 3 + 2) (by omega)
                  rw [h]; exact rowCells_at l i 2 _ (by have := HL.out; omega) (by rw [← hT]; rfl)
                have hwz : IntKind.i64.wrap (z + 1002) = z + 1002 := IntWalk.i64_in _ (by omega)
                have hwz6 : wrap64 (z + 1002) = z + 1002 := by unfold wrap64; omega
                have HT := Lib.hid hT
                have y7 : (0 : Int) ≤ (i : Int) := by omega
                have y8 : (i : Int) < (L : Int) := by omega
                have hsB := HBi.out.size
                clear hT q1 q2 HPi
                go_upto_region 45 with (fail)
                have HB21 := Lib.hid (Blk.new wr 26 #[.int .u8 (kd : Int), .string (ofL tx), .int .i64 (z + 1002)])
                have HO5 := Lib.hid (HOi.out.alloc (.cells #[.int .u8 (kd : Int), .string (ofL tx), .int .i64 (z + 1002)] 26))
                have HB5 := Lib.hid (HBi.out.alloc hsB (.cells #[.int .u8 (kd : Int), .string (ofL tx), .int .i64 (z + 1002)] 26))
                generalize wr.alloc (.cells #[.int .u8 (kd : Int), .string (ofL tx), .int .i64 (z + 1002)] 26) = w5 at HB21 HO5 HB5 ⊢
                generalize wr.heap.size = tb at HB21 ⊢
                have hs5 := HB5.out.size
                have d0 := HB21.out.cell 0
                have d1 := HB21.out.cell 1
                have d2 := HB21.out.cell 2
                clear c0' c1' c2' t5 hwz hwz6
                go_wp2_with (at_builtin; go_loud (
                  refine wpList_append_own _ rfl (.tmp 224) (.tmp 226) 23 rfl W0.heap.size 26 i0 _ 3 32 Tryd.underlying23 hi0 hz0 hz1 hz2 rfl (by decide) _ (i + 1) (rowCells (l.take a ++ ⟨4, x, 1000⟩ :: ((l.take i).drop a).map movedT)) rfl (HO5.out.alloc _) ⟨w5.heap.size, 0, none⟩ 1 1 (tokCells ⟨kd, tx, z + 1002⟩) rfl rfl (cells_new w5 (tokCells ⟨kd, tx, z + 1002⟩) _) (tokCells_one _) (by simp only [maxLen]; omega) (by omega) (by simp; omega) ?_
                  intro v2 w6 hown2 hg2 _))
                have HG6 := Lib.hid (Below.grown (HB5.out.alloc hs5 _) hg2 (by simp; omega) (fun k hk => (HO5.out.lt k hk).1))
                have hrow : rowCells (l.take a ++ ⟨4, x, 1000⟩ :: ((l.take i).drop a).map movedT) ++ tokCells ⟨kd, tx, z + 1002⟩ = rowCells (l.take a ++ ⟨4, x, 1000⟩ :: ((l.take (i + 1)).drop a).map movedT) := by
                  have e1 : l.take (i + 1) = l.take i ++ [tg l i] := by
                    rw [tg_eq l i (by have := HL.out; omega)]; exact List.take_succ_eq_append_getElem (by have := HL.out; omega)
                  rw [e1, List.drop_append_of_le_length (by rw [List.length_take]; have := HL.out; omega), List.map_append, ← HT.out]
                  rw [show l.take a ++ (⟨4, x, 1000⟩ : Mist.Tok) :: (((l.take i).drop a).map movedT ++ [(⟨kd, tx, z⟩ : Mist.Tok)].map movedT) = (l.take a ++ (⟨4, x, 1000⟩ : Mist.Tok) :: ((l.take i).drop a).map movedT) ++ [⟨kd, tx, z + 1002⟩] by simp [movedT]]
                  rw [rowCells_append]
                  simp [rowCells]
                rw [hrow] at hown2
                have HW6 := Lib.hid hown2
                clear hrow hown2 hg2 HO5 HB5 HB21 d0 d1 d2
                go_wp2_with fail
                exact ⟨⟨i + 1, by omega, by omega, by go_num, HW6, HG6⟩, by simp [intOf]; omega⟩
              · obtain rfl : L = i := by omega
                have hwl : (wrongOf l a x).length = L + 1 := by rw [wrong_len _ _ _ (by have := HL.out; omega), ← HL.out]
                have HTW := Lib.hid (show Toks wr (.slice Aw (L + 1) cw') (wrongOf l a x) from by
                  refine Toks.of_own (base := W0.heap.size) ?_
                  have h := HOi.out
                  rw [show l.take L = l from by rw [HL.out, List.take_length]] at h
                  rw [hwl]; exact h)
                obtain ⟨k1, k2, k3⟩ := HXX.out
                have hmw := HPR.out.wrong (by have := HL.out; omega) a x k2 k3 HM0.out (by rw [← HX0.out]; exact k1) ha1 (by rw [← HMC.out]; exact ham)
                have hokw := ok_of_check _ (HPR.out.wrong_check (by have := HL.out; omega) a x k2 (by have := HL.out; omega) ha1)
                have HLX := Lib.hid (HLR.out.trans (HBi.out.mono HLR.out.size))
                have HMW := Lib.hid hmw
                have HOKW := Lib.hid hokw
                have y8 : ¬ (L : Int) < (L : Int) := by omega
                clear hwl k1 k2 k3 hmw hokw HOi hiL
                go_wp2_with fail
                refine (match_any _ (wrongOf l a x) 0 _ (HE.out.below HLX.out) HTW.out HOKW.out).mono ?_
                rintro e w7 ⟨rfl, hb7⟩
                rw [HMW.out]
                have HLY := Lib.hid (HLX.out.trans (hb7.mono HLX.out.size))
                clear hb7
                go_wp2_with fail
                refine (known_any _ (HE.out.below HLY.out)).mono ?_
                rintro e wk ⟨rfl, hbk⟩
                have HLK := Lib.hid (HLY.out.trans (hbk.mono HLY.out.size)); clear hbk
                go_wp2_with fail
                go_ret
                exact ⟨by first | rfl | simp, HLK.out⟩
        have y0 : (0 : Int) ≤ (i : Int) := by omega
        have y1 : (i : Int) < (L : Int) := by omega
        have HTR := Lib.hid (HTK.out.below HB.out)
        have HLR := Lib.hid (HLW.out.trans (HB.out.mono HLW.out.size))
        go_wp2_with fail
        refine (own_any _ l _ HTR.out (by have := HL.out; omega)).mono ?_
        rintro e w3 ⟨v3, rfl, ht3, hb3⟩
        have HT3 := Lib.hid ht3
        have HB3 := Lib.hid (HB.out.trans (hb3.mono HB.out.size))
        have H53 := Lib.hid (H5r.out.below hb3 H5r.out.lt)
        clear ht3 hb3 t5
        go_wp2_with fail
        refine (match_any v3 l (i : Int) _ (HE.out.below (HLW.out.trans (HB3.out.mono HLW.out.size))) HT3.out HOK.out).mono ?_
        rintro e w4 ⟨rfl, hb4⟩
        have HB4 := Lib.hid (HB3.out.trans (hb4.mono HB3.out.size))
        have H54 := Lib.hid (H53.out.below hb4 H53.out.lt)
        have HT4 := Lib.hid (HTK.out.below HB4.out)
        have HC4 := Lib.hid (HC.out.below HB4.out hcl)
        clear hb4 HT3 HTR H53 H5r
        have t5 := H54.out.cell 0
        obtain ⟨bt, ot, hA, hrow⟩ := HT4.out.rowA (by have := HL.out; omega)
        subst hA
        have tk := hrow.text i (by have := HL.out; omega)
        clear hrow
        have cc := HC4.out.cell i
        rw [closeArr_get cl i (by omega)] at cc
        obtain ⟨x, hx⟩ : ∃ x, x = (tg l i).text := ⟨_, rfl⟩
        rw [← hx] at tk
        have HX := Lib.hid hx
        clear hx
        have i130 : (i : Int) < 130 := by omega
        by_cases hno : closerOf x = []
        · have hm := HPR.out.match_none (by have := HL.out; omega) i (by rw [← HX.out]; exact hno)
          have e1 : (x == [40]) = false ∧ (x == [91]) = false ∧ (x == [123]) = false := by
            rcases closerOf_cases x with ⟨_, b⟩ | ⟨_, b⟩ | ⟨_, b⟩ | ⟨a, b, c, _⟩
            · rw [b] at hno; cases hno
            · rw [b] at hno; cases hno
            · rw [b] at hno; cases hno
            · simp [a, b, c]
          obtain ⟨e1, e2, e3⟩ := e1
          rw [hm]
          clear hm hno
          go_wp2_with fail
          exact ⟨⟨i + 1, by omega, by go_num, HB4⟩, by simp [intOf]; omega⟩
        have hxo : x = [40] ∨ x = [91] ∨ x = [123] := by
          rcases closerOf_cases x with ⟨a, _⟩ | ⟨a, _⟩ | ⟨a, _⟩ | ⟨_, _, _, b⟩
          · exact .inl a
          · exact .inr (.inl a)
          · exact .inr (.inr a)
          · exact absurd b hno
        obtain ⟨g1, g2, g3, hg⟩ : ∃ g1 g2 g3 : Bool, (x == [40]) = g1 ∧ (x == [91]) = g2 ∧ (x == [123]) = g3 ∧ (g1 = true ∨ g1 = false ∧ g2 = true ∨ g1 = false ∧ g2 = false ∧ g3 = true) := by
          refine ⟨_, _, _, rfl, rfl, rfl, ?_⟩
          rcases hxo with rfl | rfl | rfl
          · exact .inl (by decide)
          · exact .inr (.inl (by decide))
          · exact .inr (.inr (by decide))
        obtain ⟨e1, e2, e3, hg⟩ := hg
        have hno' : closerOf (tg l i).text ≠ [] := by rw [← HX.out]; exact hno
        have HNO := Lib.hid hno'
        clear hxo hno hno'
        by_cases hc0 : cl i = 0
        · have hm := HPR.out.match_open (by have := HL.out; omega) i (by have := HL.out; omega) HNO.out hc0
          rw [hm]
          rw [hc0] at cc
          clear hm hc0
          rcases hg with rfl | ⟨rfl, rfl⟩ | ⟨rfl, rfl, rfl⟩
          all_goals
            go_wp2_with fail
            exact ⟨⟨i + 1, by omega, by go_num, HB4⟩, by simp [intOf]; omega⟩
        · have hm := HPR.out.match_hit (by have := HL.out; omega) i hc0
          obtain ⟨h1, h2, _, _, h5⟩ := HPR.out.hit i hc0
          have H55 := Lib.hid h5
          rw [hm]
          obtain ⟨m, hmm⟩ : ∃ m, m = cl i := ⟨_, rfl⟩
          rw [← hmm] at cc h1 h2 H55 ⊢
          have hmL : m < L := by have := HL.out; omega
          have f1 : (0 : Int) < (m : Int) := by omega
          have f2 : ((m : Int) == (m : Int)) = true := by simp
          clear hm hmm hc0 h5 h2
          have tail : ∀ X : Nat, X = 0 → True := fun _ _ => trivial
          rcases hg with rfl | ⟨rfl, rfl⟩ | ⟨rfl, rfl, rfl⟩
          all_goals
            clear tail
            go_wp2_with fail
            go_loopw [17] (fun kv wx => ∃ k : Nat, i + 1 ≤ k ∧ k ≤ m ∧ kv = .int .i64 k ∧ Hid (Below wc.heap.size wc wx)) (fun kv _ => m - (intOf kv).toNat)
            case atStart => exact ⟨i + 1, Nat.le_refl _, by omega, by go_num, HB4⟩
            case round =>
              obtain ⟨k, hk1, hk2, rfl, HBk⟩ := hrel
              by_cases hkm : k < m
              · have hcm := (H55.out k (by omega) hkm).1
                have HCk := Lib.hid (HC.out.below HBk.out hcl)
                have ck := HCk.out.cell k
                rw [closeArr_get cl k (by omega)] at ck
                obtain ⟨ck', hck⟩ : ∃ c, c = cl k := ⟨_, rfl⟩
                rw [← hck] at ck hcm
                clear hck
                have y2 : (k : Int) < 130 := by omega
                have y3 : (k : Int) < (m : Int) := by omega
                have y4 : ¬ (m : Int) < (ck' : Int) := by omega
                go_wp2_with fail
                exact ⟨⟨k + 1, by omega, by omega, by go_num, HBk⟩, by simp [intOf]; omega⟩
              · have y3 : ¬ (k : Int) < (m : Int) := by omega
                go_wp2_with fail
                exact ⟨⟨i + 1, by omega, by go_num, HBk⟩, by simp [intOf]; omega⟩
end Go.Proofs.YtpomgledekkjjaaDoor
