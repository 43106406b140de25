/-
  WALKS of chapter 1: mistlaw01.valid (a valid text by bytes).
-/
import Derived.Test.YtfdcimkdhioepaaCS
import Derived.Lib.SlBytesRow
import Derived.Lib.BufferRead
namespace Go.Proofs.Ytfdcimkdhioepaa
open Go.RowKit Go.Shelf Mist
attribute [local go_sem] ofL_extract ofL_size ofL_get ofL_bytes ofL_append
/-- The byte of a valid text that a byte gives. -/
def validC (b : UInt8) : UInt8 := if 250 < b.toNat then 35 else if 230 < b.toNat then 10 else UInt8.ofNat (32 + b.toNat % 95)
def validBy (l : Bs) (m : Nat) : Bs := (l.take m).map validC
theorem validBy_succ (l : Bs) (m : Nat) (h : m < l.length) : validBy l (m + 1) = validBy l m ++ [validC (gt l m)] := by
  unfold validBy; rw [take_gt l m h]; simp
theorem validC_hash (b : UInt8) (h : 250 < b.toNat) : validC b = 35 := by unfold validC; rw [if_pos h]
theorem validC_feed (b : UInt8) (h : ¬ 250 < b.toNat) (k : 230 < b.toNat) : validC b = 10 := by unfold validC; rw [if_neg h, if_pos k]
theorem validC_char (b : UInt8) (k : ¬ 230 < b.toNat) : validC b = UInt8.ofNat (32 + b.toNat % 95) := by unfold validC; rw [if_neg (by omega), if_neg k]
theorem validC_valid (b : UInt8) : validB (validC b) = true := by
  by_cases h : 250 < b.toNat
  · rw [validC_hash b h]; rfl
  · by_cases k : 230 < b.toNat
    · rw [validC_feed b h k]; rfl
    · rw [validC_char b k]
      have : (UInt8.ofNat (32 + b.toNat % 95)).toNat = 32 + b.toNat % 95 := by rw [UInt8.toNat_ofNat', Nat.mod_eq_of_lt (by omega)]
      unfold validB
      have h2 : b.toNat % 95 < 95 := Nat.mod_lt _ (by omega)
      simp only [Bool.or_eq_true, Bool.and_eq_true, decide_eq_true_eq, UInt8.le_iff_toNat_le, this]
      right
      exact ⟨by show 32 ≤ _; omega, by show _ ≤ 126; omega⟩
theorem validBy_len (l : Bs) (m : Nat) : (validBy l m).length ≤ m := by unfold validBy; rw [List.length_map, List.length_take]; omega
theorem validBy_check (l : Bs) (m : Nat) (h : m ≤ 2000) : check (validBy l m) = (0, 0) := by
  refine check_ok _ (Nat.le_trans (validBy_len l m) h) (fun c hc => ?_)
  obtain ⟨b, _, rfl⟩ := List.mem_map.1 hc
  exact validC_valid b
theorem validBy_full (l : Bs) (n : Nat) (h : n ≤ l.length) : (validBy l n).length = n := by unfold validBy; rw [List.length_map, List.length_take]; omega
def u8Vals (l : Bs) : List Value := l.map fun b => Value.int .u8 b.toNat
theorem u8Vals_snoc (l : Bs) (x : UInt8) : u8Vals (l ++ [x]) = u8Vals l ++ [.int .u8 x.toNat] := by simp [u8Vals]
theorem u8Vals_len (l : Bs) : (u8Vals l).length = l.length := by simp [u8Vals]
/-- A slice of bytes, in plain lists. -/
def U8s (w : World) (v : Value) (l : Bs) : Prop := ∃ A c, v = .slice A l.length c ∧ l.length ≤ c ∧ Reads w w.heap.size 1 A l.length (u8Vals l)
theorem U8s.none_ (w : World) : U8s w (.slice none 0 0) [] := ⟨none, 0, rfl, Nat.le_refl _, Reads.none_⟩
theorem U8s.below {w w' : World} {v : Value} {l : Bs} (h : U8s w v l) (hb : Below w.heap.size w w') : U8s w' v l := by
  obtain ⟨A, c, rfl, hc, hr⟩ := h
  exact ⟨A, c, rfl, hc, (hr.below hb).more hb.size⟩
structure URow (w : World) (b o : Nat) (l : Bs) : Prop where
  lt : b < w.heap.size
  at_ : ∀ k, k < l.length → w.cell? ⟨b, o + k, none⟩ = some (.int .u8 (gt l k).toNat)
theorem U8s.rowA {w : World} {A : Option Addr} {n c : Nat} {l : Bs} (h : U8s w (.slice A n c) l) (h0 : 0 < l.length) : ∃ b o, A = some ⟨b, o, none⟩ ∧ URow w b o l := by
  obtain ⟨A', c', hv, hc, hr⟩ := h
  injection hv with hA hn hcc
  subst hA
  obtain ⟨ad, rfl, hlt, hcell⟩ := hr.2 h0
  have hget : ∀ k, k < l.length → (u8Vals l)[k]? = some (.int .u8 (gt l k).toNat) := by
    intro k hk; simp [u8Vals, gt, hk]
  have hz := hcell 0 _ (hget 0 h0)
  obtain ⟨b, o, sp⟩ := ad
  have hsp : sp = none := by
    cases sp with
    | none => rfl
    | some x =>
      exfalso
      simp only [Addr.add, if_pos] at hz
      unfold World.cell? at hz
      simp only [Option.isSome_some, if_true] at hz
      split at hz <;> simp at hz
  subst hsp
  have hadd : ∀ n, (⟨b, o, none⟩ : Addr).add n = ⟨b, o + n, none⟩ := by
    intro n
    unfold Addr.add
    split
    · rename_i h; rw [h]; rfl
    · rfl
  refine ⟨b, o, rfl, hlt, fun k hk => ?_⟩
  have := hcell k _ (hget k hk)
  rw [hadd] at this; exact this
theorem URow.below {w w' : World} {b o B : Nat} {l : Bs} (h : URow w b o l) (hb : Below B w w') (hB : w.heap.size ≤ B) : URow w' b o l :=
  ⟨Nat.lt_of_lt_of_le h.lt hb.size, fun k hk => (hb.cell (p := ⟨b, o + k, none⟩) (Nat.lt_of_lt_of_le h.lt hB)).trans (h.at_ k hk)⟩
theorem u8_info : (Try.prog.info? 5).map (fun i => (i.zero, i.size, i.bytes)) = some (some (.int .u8 0), 1, 1) := by kernel_rfl
theorem u8_under : Try.prog.underlying 5 = some (.int .u8) := by kernel_rfl
theorem str_under : Try.prog.underlying 9 = some .string := by kernel_rfl
set_option maxRecDepth 100000 in
/-- 'string(row)' of a row of one's own. -/
theorem own_string {w : World} {base : Nat} {A : Option Addr} {n c : Nat} {l : Bs} (hn : n = l.length) (h : w.ownsRow base 5 1 (.slice A n c) n (u8Vals l)) :
    (convert 45 9 (.slice A n c)).run Try.prog w = .ok (.string (ofL l)) w := by
  subst hn
  rcases h.2 with ⟨hv, h0⟩ | ⟨g, cap, cur, hv, _, hg, hc, _⟩
  · injection hv with h1 h2 h3
    have : l = [] := List.eq_nil_of_length_eq_zero h0
    subst this
    rw [h1]
    exact Lib.run_convert_nil_bytes w 45 9 5 c Try.underlying45 u8_under str_under
  · injection hv with h1 h2 h3
    rw [h1]
    refine Lib.run_convert_whole w 45 5 9 Try.underlying45 u8_under str_under g 0 (ofL l) (fun i hi => ?_) c
    have hi2 : i < l.length := hi
    have h3 := h.cells (g := g) (by rw [h1]; rfl) i (.int .u8 (gt l i).toNat) (by simp [u8Vals, gt, hi2])
    rw [ofL_get]
    have e : ((⟨g, 0, none⟩ : Addr).add i) = ⟨g, 0 + i, none⟩ := by
      unfold Addr.add; split
      · rename_i h; rw [h]
      · rfl
    rw [e] at h3; exact h3
def VaPost (l : Bs) (m : Nat) (w : World) (e : Ending) (w' : World) : Prop := e = .returned (.string (ofL (validBy l m))) ∧ Below w.heap.size w w'
set_option maxRecDepth 100000 in
set_option maxHeartbeats 3200000 in
theorem valid_by (l : Bs) (m : Nat) (v : Value) (w : World) (hv : U8s w v l) (hm : m ≤ 2000) (hl : l.length ≤ 4611686018427387904) :
    Calls Try.prog 34 #[v, .int .i64 m] w (VaPost l m w) := by
  obtain ⟨A0, c0, rfl⟩ : ∃ A c, v = .slice A l.length c := by obtain ⟨A, c, h, _⟩ := hv; exact ⟨A, c, h⟩
  have hrow : 0 < l.length → ∃ b o, A0 = some ⟨b, o, none⟩ ∧ URow w b o l := fun h => hv.rowA h
  clear hv
  obtain ⟨i0, hi0, hz0, hz1, hz2⟩ := info_parts u8_info
  have HROW := Lib.hid hrow; clear hrow
  go_enter Try.func34, Try.ntmps34
  go_wp2
  go_loopw [5, 6] (fun v i wr => ∃ n : Nat, n ≤ l.length ∧ n ≤ m ∧ i = .int .i64 n ∧ wr.ownsRow w.heap.size 5 1 v n (u8Vals (validBy l n)) ∧ Below w.heap.size w wr) (fun _ i _ => l.length - (intOf i).toNat)
  case atStart => exact ⟨0, Nat.zero_le _, Nat.zero_le _, rfl, World.ownsRow_made _ _ _ (Nat.le_refl _) (by simp [maxLen]) rfl, (Below.refl _ _).alloc (Nat.le_refl _) _⟩
  case round =>
    obtain ⟨n, hn, hnm, rfl, hown, hb⟩ := hrel
    have hz := hb.size
    have HB := Lib.hid hb; clear hb
    obtain ⟨A, c, hv⟩ := own_form hown
    subst hv
    by_cases hlt : n < l.length
    · by_cases hlm : n < m
      · obtain ⟨b, o, rfl, hr⟩ := HROW.out (by omega)
        have hr2 := hr.below HB.out (Nat.le_refl _)
        have hc1 := hr2.at_ n hlt
        have hblt := hr2.lt
        have HSN := Lib.hid (validBy_succ l n hlt)
        have hlt256 := (gt l n).toNat_lt
        obtain ⟨x, hx⟩ : ∃ x, x = gt l n := ⟨_, rfl⟩
        rw [← hx] at hc1 hlt256 HSN
        clear hx
        have HO := Lib.hid hown; clear hown
        by_cases h250 : 250 < x.toNat
        · have HVX := Lib.hid (show ((validC x).toNat : Int) = 35 by rw [validC_hash x h250]; rfl)
          go_wp2_with (at_builtin; refine wpList_append_own _ rfl (.tmp 36) (.tmp 38) 45 rfl w.heap.size 5 i0 _ 1 1 Try.underlying45 hi0 hz0 hz1 hz2 rfl (by decide) _ n (u8Vals (validBy l n)) rfl (HO.out.alloc _) ⟨wr.heap.size, 0, none⟩ 1 1 [.int .u8 35] rfl rfl ?c1 ?c2 ?c3 ?c4 ?c5 ?_)
          case c1 => exact World.news_of_block (cs := #[.int .u8 35]) (t := 5) (fr := (0, 0)) (heap_alloc_new wr _)
          case c2 => intro u hu; rcases List.mem_singleton.1 hu with rfl; rfl
          case c3 => simp only [maxLen]; omega
          case c4 => omega
          case c5 => simp; omega
          intro v2 w3 hown2 hg2 _
          have hb2 : Below w.heap.size w w3 := (HB.out.alloc HB.out.size _).grown hg2 (by simp; omega) (fun k hk => (HO.out.lt k hk).1)
          have HO2 := Lib.hid hown2; clear hown2
          have HB2 := Lib.hid hb2; clear hb2 hg2
          go_wp2
          refine ⟨⟨n + 1, by omega, by omega, by go_num, ?_, HB2.out⟩, by simp [intOf]; omega⟩
          have h := HO2.out
          rw [HSN.out, u8Vals_snoc, HVX.out]
          exact h
        by_cases h230 : 230 < x.toNat
        · have HVX := Lib.hid (show ((validC x).toNat : Int) = 10 by rw [validC_feed x h250 h230]; rfl)
          go_wp2_with (at_builtin; refine wpList_append_own _ rfl (.tmp 36) (.tmp 38) 45 rfl w.heap.size 5 i0 _ 1 1 Try.underlying45 hi0 hz0 hz1 hz2 rfl (by decide) _ n (u8Vals (validBy l n)) rfl (HO.out.alloc _) ⟨wr.heap.size, 0, none⟩ 1 1 [.int .u8 10] rfl rfl ?c1 ?c2 ?c3 ?c4 ?c5 ?_)
          case c1 => exact World.news_of_block (cs := #[.int .u8 10]) (t := 5) (fr := (0, 0)) (heap_alloc_new wr _)
          case c2 => intro u hu; rcases List.mem_singleton.1 hu with rfl; rfl
          case c3 => simp only [maxLen]; omega
          case c4 => omega
          case c5 => simp; omega
          intro v2 w3 hown2 hg2 _
          have hb2 : Below w.heap.size w w3 := (HB.out.alloc HB.out.size _).grown hg2 (by simp; omega) (fun k hk => (HO.out.lt k hk).1)
          have HO2 := Lib.hid hown2; clear hown2
          have HB2 := Lib.hid hb2; clear hb2 hg2
          go_wp2
          refine ⟨⟨n + 1, by omega, by omega, by go_num, ?_, HB2.out⟩, by simp [intOf]; omega⟩
          have h := HO2.out
          rw [HSN.out, u8Vals_snoc, HVX.out]
          exact h
        · have HVX := Lib.hid (show ((validC x).toNat : Int) = 32 + (x.toNat : Int) % 95 by rw [validC_char x h230, UInt8.toNat_ofNat', Nat.mod_eq_of_lt (by omega)]; omega)
          go_wp2_with (at_builtin; refine wpList_append_own _ rfl (.tmp 36) (.tmp 38) 45 rfl w.heap.size 5 i0 _ 1 1 Try.underlying45 hi0 hz0 hz1 hz2 rfl (by decide) _ n (u8Vals (validBy l n)) rfl (HO.out.alloc _) ⟨wr.heap.size, 0, none⟩ 1 1 [.int .u8 (32 + (x.toNat : Int) % 95)] rfl rfl ?c1 ?c2 ?c3 ?c4 ?c5 ?_)
          case c1 => exact World.news_of_block (cs := #[.int .u8 (32 + (x.toNat : Int) % 95)]) (t := 5) (fr := (0, 0)) (heap_alloc_new wr _)
          case c2 => intro u hu; rcases List.mem_singleton.1 hu with rfl; rfl
          case c3 => simp only [maxLen]; omega
          case c4 => omega
          case c5 => simp; omega
          intro v2 w3 hown2 hg2 _
          have hb2 : Below w.heap.size w w3 := (HB.out.alloc HB.out.size _).grown hg2 (by simp; omega) (fun k hk => (HO.out.lt k hk).1)
          have HO2 := Lib.hid hown2; clear hown2
          have HB2 := Lib.hid hb2; clear hb2 hg2
          go_wp2
          refine ⟨⟨n + 1, by omega, by omega, by go_num, ?_, HB2.out⟩, by simp [intOf]; omega⟩
          have h := HO2.out
          rw [HSN.out, u8Vals_snoc, HVX.out]
          exact h
      · obtain rfl : n = m := by omega
        have hcv := own_string (validBy_full l n hn).symm hown
        go_wp2
        go_ret
        exact ⟨rfl, HB.out⟩
    · have hcv := own_string (validBy_full l n hn).symm hown
      have HE := Lib.hid (show validBy l n = validBy l m by unfold validBy; rw [List.take_of_length_le (by omega), List.take_of_length_le (by omega)])
      go_wp2
      go_ret
      exact ⟨by rw [HE.out]; rfl, HB.out⟩
end Go.Proofs.Ytfdcimkdhioepaa
