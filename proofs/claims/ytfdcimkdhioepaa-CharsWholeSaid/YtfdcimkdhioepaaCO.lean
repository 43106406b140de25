/-
  WALKS of chapter 1: chars.Lines, Show, Find; mistref01.Ints.
-/
import Derived.Test.YtfdcimkdhioepaaCN
import Derived.Test.YtfdcimkdhioepaaCPlain4
import Derived.Deep.RegionHeld3
namespace Go.Proofs.Ytfdcimkdhioepaa
open Go.RowKit Go.Shelf Mist
attribute [local go_sem] ofL_extract ofL_size ofL_get ofL_bytes ofL_append
set_option maxHeartbeats 800000 in
theorem linesN_any (s : Bs) (w : World) (hl : s.length ≤ 100000000) :
    Calls Try.prog 16 #[.string (ofL s)] w fun e w' => e = .returned (.tuple #[.int .i64 (linesN s).1, .int .i64 (linesN s).2]) ∧ Below w.heap.size w w' := by
  by_cases hc : (check s).2 = 0
  case neg =>
    have hc' : (((check s).2 : Int) != 0) = true := by simp; omega
    have HC := Lib.hid (linesN_bad s hc); clear hc
    go_enter Try.func16, Try.ntmps16
    go_wp2_with (go_at_call 41; refine (chk1_any s _ _ _ (by first | (simp; done) | exact cell_new_at _ (by simp) _ _) hl).mono ?_; rintro e w' ⟨rfl, rfl⟩)
    go_ret2
    exact ⟨two_of (by rw [HC.out]; try rfl) (by rw [HC.out]; try rfl), (Below.refl _ _).alloc (Nat.le_refl _) _⟩
  have hc' : (((check s).2 : Int) != 0) = false := by simp [hc]
  have HC := Lib.hid (linesN_ok s hc); clear hc
  have hcn := linesFrom_count s 0 0
  have hln := linesOf_len s
  obtain ⟨n, hn⟩ : ∃ n, n = Lib.countByte s 10 := ⟨_, rfl⟩
  rw [← hn] at hcn
  have HN := Lib.hid (show Lib.countByte (ofL s).data.toList 10 = n from hn.symm); clear hn
  have HL := Lib.hid (show (linesOf s).length = n + 1 from hcn)
  have hn2 : n ≤ s.length := by have := HL.out; omega
  clear hcn hln
  go_enter Try.func16, Try.ntmps16
  go_wp2_with (first
    | (go_at_call 41; refine (chk1_any s _ _ _ (by first | (simp; done) | exact cell_new_at _ (by simp) _ _) hl).mono ?_; rintro e w' ⟨rfl, rfl⟩)
    | (go_at_call 42; refine (Try.strings_Count_one (ofL s) 10 _).mono ?_; rintro e w' ⟨rfl, rfl⟩; rw [HN.out]))
  go_ret2
  exact ⟨two_of (by rw [HC.out, HL.out]; simp) (by rw [HC.out]; try rfl), (Below.refl _ _).alloc (Nat.le_refl _) _⟩
theorem repeatL_blank (n : Nat) : Lib.repeatL [32] n = List.replicate n 32 := by
  induction n with
  | zero => rfl
  | succ n ih => rw [Lib.repeatL, ih, List.replicate_succ]; rfl
theorem blanks_any (n : Nat) (w : World) (hn : n ≤ 100000000) :
    Calls Try.prog 59 #[.string ⟨#[32]⟩, .int .i64 n] w fun e w' => e = .returned (.string (ofL (List.replicate n 32))) ∧ Below w.heap.size w w' := by
  refine (Try.strings_Repeat ⟨#[32]⟩ n w (by omega) (by show 1 * n ≤ _; omega)).mono ?_
  rintro e w' ⟨rfl, hb⟩
  have h : (⟨(Lib.repeatL (⟨#[32]⟩ : ByteArray).data.toList n).toArray⟩ : ByteArray) = ofL (List.replicate n 32) := by
    show (⟨(Lib.repeatL [32] n).toArray⟩ : ByteArray) = _
    rw [repeatL_blank]; rfl
  rw [h]
  exact ⟨rfl, hb⟩
set_option maxRecDepth 100000 in
set_option maxHeartbeats 2000000 in
theorem show_any (s : Bs) (a : Int) (w : World) (hl : s.length ≤ 100000000) :
    Calls Try.prog 36 #[.string (ofL s), .int .i64 a] w fun e w' => e = .returned (.tuple #[.string (ofL (showOf s a).1), .int .i64 (showOf s a).2]) ∧ Below w.heap.size w w' := by
  by_cases hc : offErr s a = 0
  case neg =>
    have hc' : ((offErr s a : Int) != 0) = true := by simp; omega
    have HC := Lib.hid (showOf_bad s a hc); clear hc
    go_enter Try.func36, Try.ntmps36
    go_wp2_with (go_at_call 45; refine (offset_any s a _ hl).mono ?_; rintro e w1 ⟨rfl, hb1⟩)
    go_ret2
    exact ⟨str_of (by rw [HC.out]) (by rw [HC.out]; try rfl), hb1⟩
  have hc' : ((offErr s a : Int) != 0) = false := by simp [hc]
  obtain ⟨_, hai⟩ := offErr_in s a hc
  obtain ⟨hi1, hi2, hi3⟩ := aroundOf_in s a
  have hi4 := around_from s a hai
  have HC := Lib.hid (showOf_ok s a hc); clear hc
  obtain ⟨n, rfl⟩ : ∃ n : Nat, a = n := ⟨a.toNat, by omega⟩
  go_enter Try.func36, Try.ntmps36
  go_wp2_with fail
  refine (offset_any s n _ hl).mono ?_
  rintro e w1 ⟨rfl, hb1⟩
  have hz1 := hb1.size
  have HB1 := Lib.hid hb1; clear hb1
  go_wp2_with fail
  refine (around_any s n _ hl).mono ?_
  rintro e w2 ⟨rfl, hb2⟩
  have HB2 := Lib.hid (HB1.out.trans (hb2.mono HB1.out.size)); clear hb2
  obtain ⟨⟨⟨fr, tt⟩, k⟩, hk⟩ : ∃ x, x = aroundOf s n := ⟨_, rfl⟩
  rw [← hk] at hi1 hi2 hi3 hi4 HC ⊢
  clear hk
  dsimp only [lineVal] at hi1 hi2 hi3 hi4 HC ⊢
  obtain ⟨d, hd⟩ : ∃ d, n = fr + d := ⟨n - fr, by omega⟩
  have hw1 : IntKind.i64.wrap ((n : Int) - (fr : Int)) = (d : Int) := by rw [IntWalk.i64_in _ (by omega)]; omega
  have HC2 := Lib.hid (show showOf s n = (cutOf s (fr, tt) ++ [10] ++ List.replicate d 32 ++ [94], 0) by rw [HC.out, show ((n : Int) - (fr : Int)).toNat = d by omega])
  clear HC
  have hdl : d ≤ 100000000 := by omega
  have HD := Lib.hid hd; clear hd
  have hcl := cutOf_len s (fr, tt) ⟨hi1, hi2⟩
  have hb0 : (0 : Int) ≤ (fr : Int) := by omega
  have hb1 : (fr : Int) ≤ (tt : Int) := by omega
  have hb2 : (tt : Int) ≤ (s.length : Int) := by omega
  have bL := Blk.new w2 63 #[.int .i64 fr, .int .i64 tt]
  go_wp2_with fail
  obtain ⟨W, hW⟩ : ∃ W, W = w2.alloc (.cells #[.int .i64 fr, .int .i64 tt] 63) := ⟨_, rfl⟩
  have hbW : Below w.heap.size w W := by rw [hW]; exact HB2.out.alloc HB2.out.size _
  have hgW : w2.heap.size < W.heap.size := by rw [hW]; simp
  rw [← hW] at bL ⊢
  clear hW
  obtain ⟨g, hg⟩ : ∃ g, g = w2.heap.size := ⟨_, rfl⟩
  rw [← hg] at bL hgW ⊢
  clear hg
  have c0 : W.cell? ⟨g, 0, none⟩ = some (.int .i64 fr) := bL.cell 0
  have c1 : W.cell? ⟨g, 1, none⟩ = some (.int .i64 tt) := bL.cell 1
  have HBW := Lib.hid hbW; clear hbW bL
  have hcA : ¬ 9223372036854775807 < tt - fr + 1 := by omega
  have hcB : ¬ 9223372036854775807 < tt - fr + 1 + d := by omega
  have hcC : ¬ 9223372036854775807 < tt - fr + 1 + d + 1 := by omega
  have HS := Lib.hid (show ofL (List.drop fr (List.take tt s)) ++ (⟨#[10]⟩ : ByteArray) ++ ofL (List.replicate d 32) ++ (⟨#[94]⟩ : ByteArray) = ofL (cutOf s (fr, tt) ++ [10] ++ List.replicate d 32 ++ [94]) by
    rw [show (⟨#[10]⟩ : ByteArray) = ofL [10] from rfl, show (⟨#[94]⟩ : ByteArray) = ofL [94] from rfl, ofL_append, ofL_append, ofL_append]; rfl)
  go_region_held3 (fun w' => w'.cell? ⟨g, 0, none⟩ = some (.int .i64 fr) ∧ w'.cell? ⟨g, 1, none⟩ = some (.int .i64 tt))
    (first | go_keep | exact ⟨(hbr.cell (p := ⟨g, _, none⟩) hgW).trans c0, (hbr.cell (p := ⟨g, _, none⟩) hgW).trans c1⟩)
    ((go_at_call 59; refine (blanks_any d _ hdl).mono ?_; rintro e wr ⟨rfl, hbr⟩))
  rw [HS.out]
  go_wp2
  go_ret2
  exact ⟨str_of (by rw [HC2.out]) (by rw [HC2.out]; try rfl), HBW.out.trans (((Below.refl _ _).drew.trans hbr).mono HBW.out.size)⟩
/-- A slice of numbers, in plain lists. -/
def Ints (w : World) (v : Value) (l : List Nat) : Prop := ∃ A c, v = .slice A l.length c ∧ l.length ≤ c ∧ Reads w w.heap.size 1 A l.length (l.map fun (n : Nat) => Value.int .i64 n)
theorem Ints.none_ (w : World) : Ints w (.slice none 0 0) [] := ⟨none, 0, rfl, Nat.le_refl _, Reads.none_⟩
theorem Ints.below {w w' : World} {v : Value} {l : List Nat} (h : Ints w v l) (hb : Below w.heap.size w w') : Ints w' v l := by
  obtain ⟨A, c, rfl, hc, hr⟩ := h
  exact ⟨A, c, rfl, hc, (hr.below hb).more hb.size⟩
theorem Ints.of_own {w : World} {base : Nat} {e : TypeId} {v : Value} {l : List Nat} (h : w.ownsRow base e 1 v l.length (l.map fun (n : Nat) => Value.int .i64 n)) : Ints w v l := by
  obtain ⟨A, c, rfl⟩ := own_form h
  refine ⟨A, c, rfl, ?_, Reads.of_own h⟩
  rcases h.2 with ⟨hv, h0⟩ | ⟨g, cap, cur, hv, _, _, hc, _⟩
  · omega
  · injection hv with _ _ h3; omega
def FindPost (s part : Bs) (w : World) (e : Ending) (w' : World) : Prop := ∃ v, e = .returned (.tuple #[v, .int .i64 (findOf s part).2]) ∧ Ints w' v (findOf s part).1 ∧ Below w.heap.size w w'
theorem findPost_of {s part : Bs} {l : List Nat} {k : Nat} {x : Int} {v : Value} {w w' : World} (h : findOf s part = (l, k)) (hx : x = k) (ht : Ints w' v l) (hb : Below w.heap.size w w') : FindPost s part w (.returned (.tuple #[v, .int .i64 x])) w' := by
  refine ⟨v, by rw [h, hx], by rw [h]; exact ht, hb⟩
theorem int_info : (Try.prog.info? 3).map (fun i => (i.zero, i.size, i.bytes)) = some (some (.int .i64 0), 1, 8) := by kernel_rfl
set_option maxRecDepth 100000 in
set_option maxHeartbeats 2000000 in
theorem find_any (s part : Bs) (w : World) (hl : s.length ≤ 100000000) (hp : part.length ≤ 100000000) :
    Calls Try.prog 27 #[.string (ofL s), .string (ofL part)] w (FindPost s part w) := by
  by_cases hc : err2 s part = 0
  case neg =>
    have hc' : ((err2 s part : Int) != 0) = true := by simp; omega
    have HC := Lib.hid (findOf_bad s part hc); clear hc
    go_enter Try.func27, Try.ntmps27
    go_wp2_with (go_at_call 41; refine (chk2_any s part _ _ _ (cells_new_at _ (by simp) _ _ 0) (cells_new_at _ (by simp) _ _ 1) hl hp).mono ?_; rintro e w' ⟨rfl, rfl⟩)
    go_ret2
    exact findPost_of HC.out rfl (Ints.none_ _) ((Below.refl _ _).alloc (Nat.le_refl _) _)
  have hc' : ((err2 s part : Int) != 0) = false := by simp [hc]
  by_cases hpn : part = []
  · have HC := Lib.hid (findOf_nil s part hc hpn); clear hc
    subst hpn
    go_enter Try.func27, Try.ntmps27
    go_wp2_with (go_at_call 41; refine (chk2_any s [] _ _ _ (cells_new_at _ (by simp) _ _ 0) (cells_new_at _ (by simp) _ _ 1) hl hp).mono ?_; rintro e w' ⟨rfl, rfl⟩)
    go_ret2
    exact findPost_of HC.out rfl (Ints.none_ _) ((Below.refl _ _).alloc (Nat.le_refl _) _)
  have hpe2 : (part == []) = false := by rw [beq_eq_false_iff_ne]; exact hpn
  have hpe3 : part.isEmpty = false := by cases part with | nil => exact absurd rfl hpn | cons _ _ => rfl
  have HC := Lib.hid (findOf_ok s part hc hpn); clear hc hpn
  obtain ⟨i0, hi0, hz0, hz1, hz2⟩ := info_parts int_info
  go_enter Try.func27, Try.ntmps27
  go_wp2_with (go_at_call 41; refine (chk2_any s part _ _ _ (cells_new_at _ (by simp) _ _ 0) (cells_new_at _ (by simp) _ _ 1) hl hp).mono ?_; rintro e w' ⟨rfl, rfl⟩)
  go_loopw [4, 19] (fun v i wr => ∃ n : Nat, n ≤ s.length ∧ i = .int .i64 n ∧ wr.ownsRow w.heap.size 3 1 v (foundUpTo s part n).length ((foundUpTo s part n).map fun (n : Nat) => Value.int .i64 n) ∧ Below w.heap.size w wr) (fun _ i _ => s.length - (intOf i).toNat)
  case atStart => exact ⟨0, Nat.zero_le _, rfl, World.ownsRow_nil _ _ _ _, (Below.refl _ _).alloc (Nat.le_refl _) _⟩
  case round =>
    obtain ⟨n, hn, rfl, hown, hb⟩ := hrel
    have hz := hb.size
    have HB := Lib.hid hb; clear hb
    have hfl := found_len s part n
    by_cases hlt : n < s.length
    · have hb0 : (0 : Int) ≤ (n : Int) := by omega
      have hb1 : (n : Int) ≤ (s.length : Int) := by omega
      cases hpx : part.isPrefixOf (s.drop n)
      · have HX := Lib.hid (found_no s part n hpx)
        have HH := Lib.hid (show Lib.hasPrefix (ofL (s.drop n)).data.toList (ofL part).data.toList = false from hpx); clear hpx
        have HO := Lib.hid hown; clear hown
        go_wp2_with (go_at_call 56; refine (Try.strings_HasPrefix (ofL (s.drop n)) (ofL part) _).mono ?_; rintro e w' ⟨rfl, rfl⟩; rw [HH.out])
        exact ⟨⟨n + 1, by omega, by go_num, by rw [HX.out]; exact HO.out, HB.out⟩, by simp [intOf]; omega⟩
      · have HX := Lib.hid (found_yes s part n hpx)
        have HH := Lib.hid (show Lib.hasPrefix (ofL (s.drop n)).data.toList (ofL part).data.toList = true from hpx); clear hpx
        obtain ⟨A, c, hv⟩ := own_form hown
        obtain ⟨m, hm⟩ : ∃ m, m = (foundUpTo s part n).length := ⟨_, rfl⟩
        rw [← hm] at hv hown hfl
        subst hv
        have HM := Lib.hid hm; clear hm
        have HO := Lib.hid hown; clear hown
        go_wp2_with (first
          | (go_at_call 56; refine (Try.strings_HasPrefix (ofL (s.drop n)) (ofL part) _).mono ?_; rintro e w' ⟨rfl, rfl⟩; rw [HH.out])
          | (at_builtin; refine wpList_append_own _ rfl (.tmp 27) (.tmp 29) 35 rfl w.heap.size 3 i0 _ 1 8 Try.underlying35 hi0 hz0 hz1 hz2 rfl (by decide) _ m ((foundUpTo s part n).map fun (n : Nat) => Value.int .i64 n) rfl (HO.out.alloc _) ⟨w'.heap.size, 0, none⟩ 1 1 [.int .i64 n] rfl rfl ?c1 ?c2 ?c3 ?c4 ?c5 ?_))
        case c1 => exact World.news_of_block (cs := #[.int .i64 n]) (t := 3) (fr := (0, 0)) (heap_alloc_new w' _)
        case c2 => intro u hu; rcases List.mem_singleton.1 hu with rfl; rfl
        case c3 => simp only [maxLen]; omega
        case c4 => omega
        case c5 => simp; omega
        intro v2 w3 hown2 hg2 _
        have hb2 : Below w.heap.size w w3 := (HB.out.alloc HB.out.size _).grown hg2 (by simp; omega) (fun k hk => (HO.out.lt k hk).1)
        have HO2 := Lib.hid hown2; clear hown2
        have HB2 := Lib.hid hb2; clear hb2 hg2
        go_wp2
        refine ⟨⟨n + 1, by omega, by go_num, ?_, HB2.out⟩, by simp [intOf]; omega⟩
        have h := HO2.out
        rw [HX.out, List.length_append, List.length_singleton, List.map_append, ← HM.out]
        exact h
    · obtain rfl : n = s.length := by omega
      have HO := Lib.hid hown; clear hown
      go_wp2
      go_ret2
      exact findPost_of HC.out rfl (Ints.of_own HO.out) HB.out
end Go.Proofs.Ytfdcimkdhioepaa
