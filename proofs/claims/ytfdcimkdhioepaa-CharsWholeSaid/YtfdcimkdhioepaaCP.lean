/-
  WALKS of chapter 1: mistref01.Ints; the law package's text and known.
-/
import Derived.Test.YtfdcimkdhioepaaCO
namespace Go.Proofs.Ytfdcimkdhioepaa
open Go.RowKit Go.Shelf Mist
attribute [local go_sem] ofL_extract ofL_size ofL_get ofL_bytes ofL_append
structure IntRow (w : World) (b o : Nat) (l : List Nat) : Prop where
  lt : b < w.heap.size
  at_ : ∀ k, k < l.length → w.cell? ⟨b, o + k, none⟩ = some (.int .i64 (l.getD k 0 : Nat))
theorem IntRow.below {w w' : World} {b o : Nat} {l : List Nat} (h : IntRow w b o l) (hb : Below w.heap.size w w') : IntRow w' b o l :=
  ⟨Nat.lt_of_lt_of_le h.lt hb.size, fun k hk => (hb.cell (p := ⟨b, _, none⟩) h.lt).trans (h.at_ k hk)⟩
theorem Ints.rowA {w : World} {A : Option Addr} {n c : Nat} {l : List Nat} (h : Ints w (.slice A n c) l) (h0 : 0 < l.length) : ∃ b o, A = some ⟨b, o, none⟩ ∧ IntRow w b o l := by
  obtain ⟨A', c', hv, hc, hr⟩ := h
  injection hv with hA hn hcc
  subst hA
  obtain ⟨ad, rfl, hlt, hcell⟩ := hr.2 h0
  have hget : ∀ k, k < l.length → (l.map fun (n : Nat) => Value.int .i64 n)[k]? = some (.int .i64 (l.getD k 0 : Nat)) := by
    intro k hk; simp [hk]
  have hz := hcell 0 _ (hget 0 h0)
  obtain ⟨b, o, sp⟩ := ad
  have hsp : sp = none := by
    cases sp with
    | none => rfl
    | some x =>
      exfalso
      simp only [Addr.add, if_pos] at hz
      unfold World.cell? at hz
      simp only [Option.isSome_some, if_true] at hz
      split at hz <;> simp at hz
  subst hsp
  have hadd : ∀ n, (⟨b, o, none⟩ : Addr).add n = ⟨b, o + n, none⟩ := by
    intro n
    unfold Addr.add
    split
    · rename_i h; rw [h]; rfl
    · rfl
  refine ⟨b, o, rfl, hlt, fun k hk => ?_⟩
  have := hcell k _ (hget k hk)
  rw [hadd] at this; exact this
set_option maxRecDepth 100000 in
set_option maxHeartbeats 1000000 in
theorem ints_any (v1 v2 : Value) (l : List Nat) (w : World) (h1 : Ints w v1 l) (h2 : Ints w v2 l) (hl : l.length ≤ 100000000) :
    Calls Try.prog 29 #[v1, v2] w fun e w' => e = .returned (.bool true) ∧ Below w.heap.size w w' := by
  obtain ⟨A1, c1, rfl⟩ : ∃ A c, v1 = .slice A l.length c := by obtain ⟨A, c, h, _⟩ := h1; exact ⟨A, c, h⟩
  obtain ⟨A2, c2, rfl⟩ : ∃ A c, v2 = .slice A l.length c := by obtain ⟨A, c, h, _⟩ := h2; exact ⟨A, c, h⟩
  by_cases h0 : 0 < l.length
  · obtain ⟨b1, o1, rfl, r1⟩ := h1.rowA h0
    obtain ⟨b2, o2, rfl, r2⟩ := h2.rowA h0
    have R1 := Lib.hid r1; clear r1
    have R2 := Lib.hid r2; clear r2
    have H1 := Lib.hid h1; clear h1
    have H2 := Lib.hid h2; clear h2
    go_enter Try.func29, Try.ntmps29
    go_wp2
    go_loopw [5] (fun i wr => ∃ n q : Nat, n ≤ l.length ∧ i = .int .i64 n ∧ wr = w.drewN q) (fun i _ => l.length - (intOf i).toNat)
    case atStart => exact ⟨0, 0, Nat.zero_le _, rfl, rfl⟩
    case round =>
      obtain ⟨n, q, hn, rfl, rfl⟩ := hrel
      by_cases hlt : n < l.length
      · have k1 := R1.out.at_ n hlt
        have k2 := R2.out.at_ n hlt
        go_wp2
        go_quiet (fail)
        go_wp2
        exact ⟨⟨n + 1, _, by omega, by go_num, rfl⟩, by simp [intOf]; omega⟩
      · go_wp2
        go_ret
        exact ⟨rfl, bdrewN (Below.refl _ _) _⟩
  · have H1 := Lib.hid h1; clear h1
    have H2 := Lib.hid h2; clear h2
    have e1 : l.length = 0 := by omega
    rw [e1]
    go_enter Try.func29, Try.ntmps29
    go_wp2
    refine wp_loop_once ?_
    go_wp2
    go_ret
    exact ⟨rfl, Below.refl _ _⟩
def knownText : Bs := [108,101,116,32,97,32,61,32,49,59,10,97,115,107,32,98,108,97,109,101,59]
theorem text_any (w : World) : Calls Try.prog 39 #[] w fun e w' => e = .returned (.string (ofL knownText)) ∧ w = w' := by
  go_enter Try.func39, Try.ntmps39
  go_wp2
  go_ret
  exact ⟨rfl, rfl⟩
theorem linesw (s : Bs) (n : Nat) (w : World) (hl : s.length ≤ 100000000) (h : linesN s = (n, 0)) : Calls Try.prog 16 #[.string (ofL s)] w fun e w' => e = .returned (.tuple #[.int .i64 n, .int .i64 0]) ∧ Below w.heap.size w w' := by
  refine (linesN_any s w hl).mono ?_; rintro e w' ⟨rfl, hb⟩; rw [h]; exact ⟨rfl, hb⟩
theorem widestw (s : Bs) (n : Nat) (w : World) (hl : s.length ≤ 100000000) (h : widestOf s = (n, 0)) : Calls Try.prog 17 #[.string (ofL s)] w fun e w' => e = .returned (.tuple #[.int .i64 n, .int .i64 0]) ∧ Below w.heap.size w w' := by
  refine (widest_any s w hl).mono ?_; rintro e w' ⟨rfl, hb⟩; rw [h]; exact ⟨rfl, hb⟩
theorem placew (s : Bs) (a x y : Int) (w : World) (hl : s.length ≤ 100000000) (h : placeOf s a = ((x, y), 0)) : Calls Try.prog 21 #[.string (ofL s), .int .i64 a] w fun e w' => e = .returned (.tuple #[.agg #[.int .i64 x, .int .i64 y], .int .i64 0]) ∧ Below w.heap.size w w' := by
  refine (place_any s a w hl).mono ?_; rintro e w' ⟨rfl, hb⟩; rw [h]; exact ⟨rfl, hb⟩
theorem offsetw (s : Bs) (a b x : Int) (w : World) (hl : s.length ≤ 100000000) (h : offsetOf s a b = (x, 0)) : Calls Try.prog 22 #[.string (ofL s), .agg #[.int .i64 a, .int .i64 b]] w fun e w' => e = .returned (.tuple #[.int .i64 x, .int .i64 0]) ∧ Below w.heap.size w w' := by
  refine (offsetP_any s a b w hl).mono ?_; rintro e w' ⟨rfl, hb⟩; rw [h]; exact ⟨rfl, hb⟩
theorem showw (s : Bs) (a : Int) (x : Bs) (w : World) (hl : s.length ≤ 100000000) (h : showOf s a = (x, 0)) : Calls Try.prog 36 #[.string (ofL s), .int .i64 a] w fun e w' => e = .returned (.tuple #[.string (ofL x), .int .i64 0]) ∧ Below w.heap.size w w' := by
  refine (show_any s a w hl).mono ?_; rintro e w' ⟨rfl, hb⟩; rw [h]; exact ⟨rfl, hb⟩
theorem cleanw (s x : Bs) (w : World) (hE : CEnv w) (hl : s.length ≤ 100000000) (h : cleanOf s = (x, 0)) : Calls Try.prog 25 #[.string (ofL s)] w fun e w' => e = .returned (.tuple #[.string (ofL x), .int .i64 0]) ∧ Below w.heap.size w w' := by
  refine (clean_any s w hE hl).mono ?_; rintro e w' ⟨rfl, hb⟩; rw [h]; exact ⟨rfl, hb⟩
theorem findw (s p : Bs) (l : List Nat) (w : World) (hl : s.length ≤ 100000000) (hp : p.length ≤ 100000000) (h : findOf s p = (l, 0)) : Calls Try.prog 27 #[.string (ofL s), .string (ofL p)] w fun e w' => ∃ v, e = .returned (.tuple #[v, .int .i64 0]) ∧ Ints w' v l ∧ Below w.heap.size w w' := by
  refine (find_any s p w hl hp).mono ?_; rintro e w' ⟨v, rfl, hi, hb⟩; rw [h] at hi ⊢; exact ⟨v, rfl, hi, hb⟩
theorem splicew (s p x : Bs) (a m : Int) (w : World) (hl : s.length ≤ 100000000) (hp : p.length ≤ 100000000) (h : spliceOf s a m p = (x, 0)) : Calls Try.prog 30 #[.string (ofL s), .int .i64 a, .int .i64 m, .string (ofL p)] w fun e w' => e = .returned (.tuple #[.string (ofL x), .int .i64 0]) ∧ Below w.heap.size w w' := by
  refine (splice_any s p a m w hl hp).mono ?_; rintro e w' ⟨rfl, hb⟩; rw [h]; exact ⟨rfl, hb⟩
theorem movedw (s p : Bs) (a m k x : Int) (w : World) (hl : s.length ≤ 100000000) (hp : p.length ≤ 100000000) (h : movedOf s a m p k = (x, 0)) : Calls Try.prog 31 #[.string (ofL s), .int .i64 a, .int .i64 m, .string (ofL p), .int .i64 k] w fun e w' => e = .returned (.tuple #[.int .i64 x, .int .i64 0]) ∧ Below w.heap.size w w' := by
  refine (moved_any s p a m k w hl hp).mono ?_; rintro e w' ⟨rfl, hb⟩; rw [h]; exact ⟨rfl, hb⟩
theorem kn1 : linesN knownText = (2, 0) := by decide +kernel
theorem kn2 : widestOf knownText = (10, 0) := by decide +kernel
theorem kn3 : placeOf knownText 15 = ((2, 5), 0) := by decide +kernel
theorem kn4 : offsetOf knownText 2 11 = (21, 0) := by decide +kernel
theorem kn5 : showOf knownText 15 = ([97, 115, 107, 32, 98, 108, 97, 109, 101, 59, 10, 32, 32, 32, 32, 94], 0) := by decide +kernel
def knownRaw : Bs := [32, 32, 108, 101, 116, 32, 97, 32, 61, 32, 35, 32, 115, 111, 10, 32, 49, 59, 32, 32]
theorem kn6 : cleanOf knownRaw = ([108, 101, 116, 32, 97, 32, 61, 32, 49, 59], 0) := by decide +kernel
theorem kn7 : findOf [97, 97, 98, 97, 32, 97, 97, 97] [97, 97] = ([0, 5, 6], 0) := by decide +kernel
theorem kn8 : spliceOf [108, 101, 116, 32, 97, 32, 61, 32, 49, 59] 4 1 [98, 99, 100] = ([108, 101, 116, 32, 98, 99, 100, 32, 61, 32, 49, 59], 0) := by decide +kernel
theorem kn9 : movedOf [108, 101, 116, 32, 97, 32, 61, 32, 49, 59] 4 1 [98, 99, 100] 8 = (10, 0) := by decide +kernel
theorem Ints.new3 (w : World) (a b c : Nat) : Ints (w.alloc (.cells #[.int .i64 a, .int .i64 b, .int .i64 c] 3)) (.slice (some ⟨w.heap.size, 0, none⟩) 3 3) [a, b, c] := by
  refine ⟨some ⟨w.heap.size, 0, none⟩, 3, rfl, Nat.le_refl _, rfl, fun _ => ⟨_, rfl, by simp, ?_⟩⟩
  exact World.news_of_block (cs := #[.int .i64 a, .int .i64 b, .int .i64 c]) (t := 3) (fr := (0, 0)) (heap_alloc_new w _)
set_option maxRecDepth 100000 in
set_option maxHeartbeats 4000000 in
theorem known_any (w : World) (hE : CEnv w) :
    Calls Try.prog 14 #[] w fun e w' => e = .returned (.bool true) ∧ Below w.heap.size w w' := by
  have HE := Lib.hid hE; clear hE
  go_enter Try.func14, Try.ntmps14
  go_wp2_with (go_at_call 39; refine (text_any _).mono ?_; rintro e w' ⟨rfl, rfl⟩)
  refine (linesw knownText 2 _ (by decide) kn1).mono ?_
  rintro e w1 ⟨rfl, hb1⟩
  have HB1 := Lib.hid hb1; clear hb1
  go_wp2_with (go_at_call 39; refine (text_any _).mono ?_; rintro e w' ⟨rfl, rfl⟩)
  refine (widestw knownText 10 _ (by decide) kn2).mono ?_
  rintro e w2 ⟨rfl, hb2⟩
  have HB2 := Lib.hid (HB1.out.trans (hb2.mono HB1.out.size)); clear hb2
  go_wp2_with (go_at_call 39; refine (text_any _).mono ?_; rintro e w' ⟨rfl, rfl⟩)
  refine (placew knownText 15 2 5 _ (by decide) kn3).mono ?_
  rintro e w3 ⟨rfl, hb3⟩
  have HB3 := Lib.hid (HB2.out.trans (hb3.mono HB2.out.size)); clear hb3
  have bP := Blk.new w3 28 #[.int .i64 2, .int .i64 5]
  have HA3 := Lib.hid (HB3.out.alloc HB3.out.size (.cells #[.int .i64 2, .int .i64 5] 28))
  go_wp2_with (go_at_call 39; refine (text_any _).mono ?_; rintro e w' ⟨rfl, rfl⟩)
  refine (offsetw knownText 2 11 21 _ (by decide) kn4).mono ?_
  rintro e w4 ⟨rfl, hb4⟩
  have bP4 := bP.below hb4 (by simp)
  have HB4 := Lib.hid (HA3.out.trans (hb4.mono HA3.out.size))
  have hz4 : w3.heap.size < w4.heap.size := by have := hb4.size; simp at this; omega
  clear hb4
  go_wp2_with (go_at_call 39; refine (text_any _).mono ?_; rintro e w' ⟨rfl, rfl⟩)
  refine (showw knownText 15 [97, 115, 107, 32, 98, 108, 97, 109, 101, 59, 10, 32, 32, 32, 32, 94] _ (by decide) kn5).mono ?_
  rintro e w5 ⟨rfl, hb5⟩
  have bP5 := bP4.below hb5 hz4
  have hz5 := Nat.lt_of_lt_of_le hz4 hb5.size
  have HB5 := Lib.hid (HB4.out.trans (hb5.mono HB4.out.size)); clear hb5
  go_wp2_with fail
  refine (cleanw knownRaw [108, 101, 116, 32, 97, 32, 61, 32, 49, 59] _ (HE.out.below HB5.out) (by decide) kn6).mono ?_
  rintro e w6 ⟨rfl, hb6⟩
  have bP6 := bP5.below hb6 hz5
  have hz6 := Nat.lt_of_lt_of_le hz5 hb6.size
  have HB6 := Lib.hid (HB5.out.trans (hb6.mono HB5.out.size)); clear hb6
  go_wp2_with fail
  refine (findw [97, 97, 98, 97, 32, 97, 97, 97] [97, 97] [0, 5, 6] _ (by decide) (by decide) kn7).mono ?_
  rintro e w7 ⟨v7, rfl, hi7, hb7⟩
  have bP7 := bP6.below hb7 hz6
  have hz7 := Nat.lt_of_lt_of_le hz6 hb7.size
  have HB7 := Lib.hid (HB6.out.trans (hb7.mono HB6.out.size)); clear hb7
  go_wp2_with fail
  refine (splicew [108, 101, 116, 32, 97, 32, 61, 32, 49, 59] [98, 99, 100] [108, 101, 116, 32, 98, 99, 100, 32, 61, 32, 49, 59] 4 1 _ (by decide) (by decide) kn8).mono ?_
  rintro e w8 ⟨rfl, hb8⟩
  have hi8 := hi7.below hb8
  have bP8 := bP7.below hb8 hz7
  have hz8 := Nat.lt_of_lt_of_le hz7 hb8.size
  have HB8 := Lib.hid (HB7.out.trans (hb8.mono HB7.out.size)); clear hb8
  go_wp2_with fail
  refine (movedw [108, 101, 116, 32, 97, 32, 61, 32, 49, 59] [98, 99, 100] 4 1 8 10 _ (by decide) (by decide) kn9).mono ?_
  rintro e w9 ⟨rfl, hb9⟩
  have hi9 := hi8.below hb9
  have bP9 := bP8.below hb9 hz8
  have hz9 := Nat.lt_of_lt_of_le hz8 hb9.size
  have HB9 := Lib.hid (HB8.out.trans (hb9.mono HB8.out.size)); clear hb9
  have c0 : w9.cell? ⟨w3.heap.size, 0, none⟩ = some (.int .i64 2) := bP9.cell 0
  have c1 : w9.cell? ⟨w3.heap.size, 1, none⟩ = some (.int .i64 5) := bP9.cell 1
  clear bP bP4 bP5 bP6 bP7 bP8 bP9
  have HI := Lib.hid hi9; clear hi7 hi8 hi9
  go_wp2_with fail
  refine (ints_any _ _ [0, 5, 6] _ (HI.out.below ((Below.refl _ _).alloc (Nat.le_refl _) _)) (Ints.new3 _ 0 5 6) (by decide)).mono ?_
  rintro e w10 ⟨rfl, hb10⟩
  have HB10 := Lib.hid ((HB9.out.alloc HB9.out.size _).trans (hb10.mono (by have := HB9.out.size; simp; omega))); clear hb10
  go_wp2
  go_ret
  exact ⟨rfl, HB10.out⟩
end Go.Proofs.Ytfdcimkdhioepaa
