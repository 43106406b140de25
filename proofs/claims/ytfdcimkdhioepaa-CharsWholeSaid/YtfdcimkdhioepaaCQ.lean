/-
  WALKS of chapter 1: mistref01.Parts, Lines, Widest.
-/
import Derived.Test.YtfdcimkdhioepaaCP
namespace Go.Proofs.Ytfdcimkdhioepaa
open Go.RowKit Go.Shelf Mist
attribute [local go_sem] ofL_extract ofL_size ofL_get ofL_bytes ofL_append
theorem str_info : (Try.prog.info? 9).map (fun i => (i.zero, i.size, i.bytes)) = some (some (.string .empty), 1, 16) := by kernel_rfl
def strVals (l : List Bs) : List Value := l.map fun x => Value.string (ofL x)
theorem strVals_snoc (l : List Bs) (x : Bs) : strVals (l ++ [x]) = strVals l ++ [.string (ofL x)] := by simp [strVals]
theorem strVals_len (l : List Bs) : (strVals l).length = l.length := by simp [strVals]
/-- A slice of texts, in plain lists. -/
def Strs (w : World) (v : Value) (l : List Bs) : Prop := ∃ A c, v = .slice A l.length c ∧ l.length ≤ c ∧ Reads w w.heap.size 1 A l.length (strVals l)
theorem Strs.below {w w' : World} {v : Value} {l : List Bs} (h : Strs w v l) (hb : Below w.heap.size w w') : Strs w' v l := by
  obtain ⟨A, c, rfl, hc, hr⟩ := h
  exact ⟨A, c, rfl, hc, (hr.below hb).more hb.size⟩
theorem Strs.of_own {w : World} {base : Nat} {e : TypeId} {v : Value} {l : List Bs} (h : w.ownsRow base e 1 v l.length (strVals l)) : Strs w v l := by
  obtain ⟨A, c, rfl⟩ := own_form h
  refine ⟨A, c, rfl, ?_, Reads.of_own h⟩
  rcases h.2 with ⟨hv, h0⟩ | ⟨g, cap, cur, hv, _, _, hc, _⟩
  · omega
  · injection hv with _ _ h3; omega
structure SRow (w : World) (b o : Nat) (l : List Bs) : Prop where
  lt : b < w.heap.size
  at_ : ∀ k, k < l.length → w.cell? ⟨b, o + k, none⟩ = some (.string (ofL (sg l k)))
theorem Strs.rowA {w : World} {A : Option Addr} {n c : Nat} {l : List Bs} (h : Strs w (.slice A n c) l) (h0 : 0 < l.length) : ∃ b o, A = some ⟨b, o, none⟩ ∧ SRow w b o l := by
  obtain ⟨A', c', hv, hc, hr⟩ := h
  injection hv with hA hn hcc
  subst hA
  obtain ⟨ad, rfl, hlt, hcell⟩ := hr.2 h0
  have hget : ∀ k, k < l.length → (strVals l)[k]? = some (.string (ofL (sg l k))) := by
    intro k hk; simp [strVals, sg, hk]
  have hz := hcell 0 _ (hget 0 h0)
  obtain ⟨b, o, sp⟩ := ad
  have hsp : sp = none := by
    cases sp with
    | none => rfl
    | some x =>
      exfalso
      simp only [Addr.add, if_pos] at hz
      unfold World.cell? at hz
      simp only [Option.isSome_some, if_true] at hz
      split at hz <;> simp at hz
  subst hsp
  have hadd : ∀ n, (⟨b, o, none⟩ : Addr).add n = ⟨b, o + n, none⟩ := by
    intro n
    unfold Addr.add
    split
    · rename_i h; rw [h]; rfl
    · rfl
  refine ⟨b, o, rfl, hlt, fun k hk => ?_⟩
  have := hcell k _ (hget k hk)
  rw [hadd] at this; exact this
def partsOf (s : Bs) (l : List (Nat × Nat)) : List Bs := l.map (cutOf s)
theorem partsOf_snoc (s : Bs) (l : List (Nat × Nat)) (p : Nat × Nat) : partsOf s (l ++ [p]) = partsOf s l ++ [cutOf s p] := by simp [partsOf]
def PartsPost (s : Bs) (w : World) (e : Ending) (w' : World) : Prop := ∃ v, e = .returned v ∧ Strs w' v (partsOf s (linesOf s)) ∧ Below w.heap.size w w'
set_option maxRecDepth 100000 in
set_option maxHeartbeats 2000000 in
theorem parts_any (s : Bs) (w : World) (hl : s.length ≤ 100000000) : Calls Try.prog 44 #[.string (ofL s)] w (PartsPost s w) := by
  obtain ⟨i0, hi0, hz0, hz1, hz2⟩ := info_parts str_info
  go_enter Try.func44, Try.ntmps44
  go_wp2
  go_loopw [3, 4, 5] (fun v f i wr => ∃ (a n m : Nat) (l : List (Nat × Nat)), f = .int .i64 a ∧ i = .int .i64 n ∧ a ≤ n ∧ n ≤ s.length ∧ l.length = m ∧ m ≤ n ∧ linesOf s = l ++ linesFrom a n (s.drop n) ∧ wr.ownsRow w.heap.size 9 1 v m (strVals (partsOf s l)) ∧ Below w.heap.size w wr) (fun _ _ i _ => s.length - (intOf i).toNat)
  case atStart => exact ⟨0, 0, 0, [], rfl, rfl, Nat.le_refl _, Nat.zero_le _, rfl, Nat.le_refl _, rfl, World.ownsRow_made _ _ _ (Nat.le_refl _) (by simp [maxLen]) rfl, (Below.refl _ _).alloc (Nat.le_refl _) _⟩
  case round =>
    obtain ⟨a, n, m, l, rfl, rfl, han, hn, hm, hmn, hln, hown, hb⟩ := hrel
    have HM := Lib.hid hm; clear hm
    have HLN := Lib.hid hln; clear hln
    have hz := hb.size
    have HB := Lib.hid hb; clear hb
    obtain ⟨A, c, rfl⟩ := own_form hown
    have HO := Lib.hid hown; clear hown
    have hb0 : (0 : Int) ≤ (a : Int) := by omega
    have hb1 : (a : Int) ≤ (n : Int) := by omega
    have hb2 : (n : Int) ≤ (s.length : Int) := by omega
    by_cases hlt : n < s.length
    · by_cases h10 : gt s n = 10
      · have h10' : (((gt s n).toNat : Int) == 10) = true := by rw [h10]; rfl
        have HX := Lib.hid (linesFrom_feed s a n hlt h10); clear h10
        go_wp2_with (at_builtin; refine wpList_append_own _ rfl (.tmp 17) (.tmp 22) 64 rfl w.heap.size 9 i0 _ 1 16 Try.underlying64 hi0 hz0 hz1 hz2 rfl (by decide) _ m (strVals (partsOf s l)) rfl (HO.out.alloc _) ⟨wr.heap.size, 0, none⟩ 1 1 [.string (ofL (List.drop a (List.take n s)))] rfl rfl ?c1 ?c2 ?c3 ?c4 ?c5 ?_)
        case c1 => exact World.news_of_block (cs := #[.string (ofL (List.drop a (List.take n s)))]) (t := 9) (fr := (0, 0)) (heap_alloc_new wr _)
        case c2 => intro u hu; rcases List.mem_singleton.1 hu with rfl; rfl
        case c3 => simp only [maxLen]; omega
        case c4 => omega
        case c5 => simp; omega
        intro v2 w3 hown2 hg2 _
        have hb2 : Below w.heap.size w w3 := (HB.out.alloc HB.out.size _).grown hg2 (by simp; omega) (fun k hk => (HO.out.lt k hk).1)
        have HO2 := Lib.hid hown2; clear hown2
        have HB2 := Lib.hid hb2; clear hb2 hg2
        go_wp2
        refine ⟨⟨n + 1, n + 1, m + 1, l ++ [(a, n)], by go_num, by go_num, Nat.le_refl _, by omega, by rw [List.length_append, HM.out]; rfl, by omega, by rw [HLN.out, HX.out]; simp, ?_, HB2.out⟩, by simp [intOf]; omega⟩
        rw [partsOf_snoc, strVals_snoc]
        exact HO2.out
      · have h10' : (((gt s n).toNat : Int) == 10) = false := by
          rw [beq_eq_false_iff_ne]; intro e
          exact h10 (UInt8.toNat_inj.1 (by have : (gt s n).toNat = 10 := by omega
                                           rw [this]; rfl))
        have HX := Lib.hid (linesFrom_other s a n hlt h10); clear h10
        go_wp2
        exact ⟨⟨a, n + 1, m, l, rfl, by go_num, by omega, by omega, HM.out, by omega, by rw [HLN.out, HX.out], HO.out, HB.out⟩, by simp [intOf]; omega⟩
    · obtain rfl : n = s.length := by omega
      have HX := Lib.hid (linesFrom_end s a s.length (Nat.le_refl _))
      go_wp2_with (at_builtin; refine wpList_append_own _ rfl (.tmp 26) (.tmp 30) 64 rfl w.heap.size 9 i0 _ 1 16 Try.underlying64 hi0 hz0 hz1 hz2 rfl (by decide) _ m (strVals (partsOf s l)) rfl (HO.out.alloc _) ⟨wr.heap.size, 0, none⟩ 1 1 [.string (ofL (List.drop a s))] rfl rfl ?c1 ?c2 ?c3 ?c4 ?c5 ?_)
      case c1 => exact World.news_of_block (cs := #[.string (ofL (List.drop a s))]) (t := 9) (fr := (0, 0)) (heap_alloc_new wr _)
      case c2 => intro u hu; rcases List.mem_singleton.1 hu with rfl; rfl
      case c3 => simp only [maxLen]; omega
      case c4 => omega
      case c5 => simp; omega
      intro v2 w3 hown2 hg2 _
      have hb2 : Below w.heap.size w w3 := (HB.out.alloc HB.out.size _).grown hg2 (by simp; omega) (fun k hk => (HO.out.lt k hk).1)
      have HO2 := Lib.hid hown2; clear hown2
      have HB2 := Lib.hid hb2; clear hb2 hg2
      go_wp2
      go_ret
      have hfin : linesOf s = l ++ [(a, s.length)] := by rw [HLN.out, HX.out]
      refine ⟨_, rfl, ?_, HB2.out⟩
      rw [hfin, partsOf_snoc]
      refine Strs.of_own (base := w.heap.size) (e := 9) ?_
      have hcut : cutOf s (a, s.length) = s.drop a := by unfold cutOf; simp
      rw [List.length_append, strVals_snoc, hcut, show (partsOf s l).length = m by unfold partsOf; rw [List.length_map, HM.out]]
      exact HO2.out
set_option maxHeartbeats 800000 in
theorem rlines_any (s : Bs) (w : World) (hl : s.length ≤ 100000000) :
    Calls Try.prog 19 #[.string (ofL s)] w fun e w' => e = .returned (.tuple #[.int .i64 (linesN s).1, .int .i64 (linesN s).2]) ∧ Below w.heap.size w w' := by
  by_cases hc : (check s).2 = 0
  case neg =>
    have hc' : (((check s).2 : Int) != 0) = true := by simp; omega
    have HC := Lib.hid (linesN_bad s hc); clear hc
    go_enter Try.func19, Try.ntmps19
    go_wp2_with (go_at_call 18; refine (rcheck_any s _ hl).mono ?_; rintro e w' ⟨rfl, rfl⟩)
    go_ret2
    exact ⟨two_of (by rw [HC.out]; try rfl) (by rw [HC.out]; try rfl), Below.refl _ _⟩
  have hc' : (((check s).2 : Int) != 0) = false := by simp [hc]
  have HC := Lib.hid (linesN_ok s hc); clear hc
  go_enter Try.func19, Try.ntmps19
  go_wp2_with (first
    | (go_at_call 18; refine (rcheck_any s _ hl).mono ?_; rintro e w' ⟨rfl, rfl⟩)
    | (go_at_call 44; refine (parts_any s _ hl).mono ?_; rintro e w1 ⟨v1, rfl, hs1, hb1⟩; obtain ⟨A, c, rfl⟩ : ∃ A c, v1 = .slice A (partsOf s (linesOf s)).length c := by obtain ⟨A, c, h, _⟩ := hs1; exact ⟨A, c, h⟩))
  go_ret2
  exact ⟨two_of (by rw [HC.out]; simp [partsOf]) (by rw [HC.out]; try rfl), hb1⟩
theorem widPart (s : Bs) (l : List (Nat × Nat)) (n : Nat) (h : n < l.length) (hm : ∀ p ∈ l, p.1 ≤ p.2 ∧ p.2 ≤ s.length) : wid (l.take (n + 1)) = max (wid (l.take n)) (sg (partsOf s l) n).length := by
  have h2 : n < (partsOf s l).length := by unfold partsOf; rw [List.length_map]; exact h
  rw [List.take_succ_eq_append_getElem h, wid_snoc, sg_eq _ _ h2]
  have e : (partsOf s l)[n] = cutOf s l[n] := by simp [partsOf]
  rw [e, cutOf_len s _ (hm _ (List.getElem_mem h))]
set_option maxRecDepth 100000 in
set_option maxHeartbeats 1600000 in
theorem rwidest_any (s : Bs) (w : World) (hl : s.length ≤ 100000000) :
    Calls Try.prog 20 #[.string (ofL s)] w fun e w' => e = .returned (.tuple #[.int .i64 (widestOf s).1, .int .i64 (widestOf s).2]) ∧ Below w.heap.size w w' := by
  by_cases hc : (check s).2 = 0
  case neg =>
    have hc' : (((check s).2 : Int) != 0) = true := by simp; omega
    have HC := Lib.hid (widestOf_bad s hc); clear hc
    go_enter Try.func20, Try.ntmps20
    go_wp2_with (go_at_call 18; refine (rcheck_any s _ hl).mono ?_; rintro e w' ⟨rfl, rfl⟩)
    go_ret2
    exact ⟨two_of (by rw [HC.out]; try rfl) (by rw [HC.out]; try rfl), Below.refl _ _⟩
  have hc' : (((check s).2 : Int) != 0) = false := by simp [hc]
  have HC := Lib.hid (widestOf_ok s hc); clear hc
  have hlm := linesOf_mem s
  have hll := linesOf_len s
  obtain ⟨l, hL⟩ : ∃ l, l = linesOf s := ⟨_, rfl⟩
  have hpl : (partsOf s l).length = l.length := by unfold partsOf; rw [List.length_map]
  have HP := Lib.hid (fun n h => widPart s l n h (by rw [hL]; exact hlm))
  rw [← hL] at hll
  have HL := Lib.hid hL; clear hL hlm
  have hpl0 : 0 < l.length := by
    rw [HL.out]; have := linesFrom_count s 0 0; show 0 < (linesFrom 0 0 s).length; omega
  go_enter Try.func20, Try.ntmps20
  go_wp2_with (first
    | (go_at_call 18; refine (rcheck_any s _ hl).mono ?_; rintro e w' ⟨rfl, rfl⟩)
    | (go_at_call 44; refine (parts_any s _ hl).mono ?_; rintro e w1 ⟨v1, rfl, hs1, hb1⟩; rw [← HL.out] at hs1; obtain ⟨A, c, rfl⟩ : ∃ A c, v1 = .slice A l.length c := by obtain ⟨A, c, h, _⟩ := hs1; exact ⟨A, c, by rw [h, hpl]⟩))
  obtain ⟨b, o, rfl, hr⟩ := hs1.rowA (by rw [hpl]; exact hpl0)
  have HR := Lib.hid hr; clear hr hs1
  go_loopw [6, 8] (fun m i wr => ∃ n : Nat, n ≤ l.length ∧ i = .int .i64 n ∧ m = .int .i64 (wid (l.take n) : Nat) ∧ wr = w1) (fun _ i _ => l.length - (intOf i).toNat)
  case atStart => exact ⟨0, Nat.zero_le _, rfl, rfl, rfl⟩
  case round =>
    obtain ⟨n, hn, rfl, rfl, rfl⟩ := hrel
    by_cases hlt : n < l.length
    · have hc1 := HR.out.at_ n (by rw [hpl]; exact hlt)
      have hbl := HR.out.lt
      have HX := Lib.hid (HP.out n hlt)
      obtain ⟨m, hm⟩ : ∃ m, m = wid (l.take n) := ⟨_, rfl⟩
      rw [← hm] at HX ⊢
      clear hm
      by_cases hmx : m ≤ (sg (partsOf s l) n).length
      · go_wp2
        all_goals exact ⟨⟨n + 1, by omega, by go_num, by rw [HX.out]; congr 1; omega, by first | rfl | trivial⟩, by simp [intOf]; omega⟩
      · go_wp2
        all_goals exact ⟨⟨n + 1, by omega, by go_num, by rw [HX.out]; congr 1; omega, by first | rfl | trivial⟩, by simp [intOf]; omega⟩
    · have e : l.take n = l := List.take_of_length_le (by omega)
      rw [e]
      go_wp2
      go_ret2
      exact ⟨two_of (by rw [HC.out, HL.out]) (by rw [HC.out]; try rfl), hb1⟩
end Go.Proofs.Ytfdcimkdhioepaa
