/-
  WALKS, eighth part: token.Read.
-/
import Derived.Test.YtpomgledekkjjaaDoorWalkG
import Derived.Test.YtpomgledekkjjaaDoorWords
import Derived.Test.YtpomgledekkjjaaDoorPlain2
namespace Go.Proofs.YtpomgledekkjjaaDoor
open Go.RowKit Mist
attribute [local go_sem] ofL_extract ofL_size ofL_get ofL_bytes ofL_append
def tokCells (t : Tok) : List Value := [.int .u8 t.kind, .string (ofL t.text), .int .i64 t.at_]
def rowCells (l : List Tok) : List Value := l.flatMap tokCells
theorem rowCells_len (l : List Tok) : (rowCells l).length = l.length * 3 := by
  induction l with
  | nil => rfl
  | cons t r ih => simp [rowCells, tokCells] at ih ⊢; omega
theorem rowCells_append (l m : List Tok) : rowCells (l ++ m) = rowCells l ++ rowCells m := by simp [rowCells]
/-- A slice value that reads as tokens. -/
def Toks (w : World) (v : Value) (l : List Tok) : Prop := ∃ A c, v = .slice A l.length c ∧ l.length ≤ c ∧ Reads w w.heap.size 3 A l.length (rowCells l)
theorem Toks.of_own {w : World} {base : Nat} {v : Value} {l : List Tok} (h : w.ownsRow base 26 3 v l.length (rowCells l)) : Toks w v l := by
  rcases h.2 with ⟨hv, h0⟩ | ⟨g, cap, cur, hv, _, _, hc, _⟩
  · have : l = [] := List.eq_nil_of_length_eq_zero h0
    subst this
    exact ⟨none, 0, hv, Nat.le_refl _, Reads.none_⟩
  · exact ⟨_, cap, hv, hc, Reads.of_own (hv ▸ h)⟩
theorem token_info : (Tryd.prog.info? 26).map (fun i => (i.zero, i.size, i.bytes)) = some (some (.agg #[.int .u8 0, .string ByteArray.empty, .int .i64 0]), 3, 32) := by kernel_rfl
theorem own_form {w : World} {base e size n : Nat} {v : Value} {xs : List Value} (h : w.ownsRow base e size v n xs) : ∃ A c, v = .slice A n c := by
  rcases h.2 with ⟨hv, h0⟩ | ⟨g, cap, cur, hv, _⟩
  · exact ⟨none, 0, by rw [hv, h0]⟩
  · exact ⟨_, _, hv⟩
theorem own_below {w w' : World} {base e size n : Nat} {v : Value} {xs : List Value} (h : w.ownsRow base e size v n xs) (hb : Below w.heap.size w w') : w'.ownsRow base e size v n xs := by
  refine ⟨h.1, ?_⟩
  rcases h.2 with h2 | ⟨g, cap, cur, hv, hg, hh, r⟩
  · exact .inl h2
  · have hlt : g < w.heap.size := by
      rcases Nat.lt_or_ge g w.heap.size with h' | h'
      · exact h'
      · rw [Array.getElem?_eq_none h'] at hh; cases hh
    exact .inr ⟨g, cap, cur, hv, hg, (hb.block g hlt).trans hh, r⟩
theorem cells_new (w : World) (cs : List Value) (t : TypeId) : ∀ j u, cs[j]? = some u → (w.alloc (.cells cs.toArray t)).cell? ((⟨w.heap.size, 0, none⟩ : Addr).add j) = some u := by
  intro j u hj
  have hn : (w.alloc (.cells cs.toArray t)).heap[w.heap.size]? = some (.cells cs.toArray t) := heap_alloc_new w _
  have : (w.alloc (.cells cs.toArray t)).cell? ⟨w.heap.size, j, none⟩ = some u := by
    rw [Lib.cell_of_heap hn]; simpa using hj
  rw [← this]
  unfold Addr.add
  split
  · rename_i h; rw [h]
  · simp
theorem tokCells_one (t : Tok) : ∀ u ∈ tokCells t, u.oneCell' = true := by
  intro u hu
  simp [tokCells] at hu
  rcases hu with rfl | rfl | rfl <;> rfl
theorem read_bad (l : Bs) (h : ¬ (check l).2 = 0) : read l = ([], (check l).1, (check l).2) := by unfold Mist.read; rw [if_pos h]
theorem read_good (l : Bs) (h : (check l).2 = 0) : read l = readFrom (l.length + 1) l (skip l) [] := by unfold Mist.read; rw [if_neg (by simpa using h)]
def ReadPost (l : Bs) (w : World) (e : Ending) (w' : World) : Prop := ∃ v, e = .returned (.tuple #[v, .int .i64 (read l).2.1, .int .i64 (read l).2.2]) ∧ Toks w' v (read l).1 ∧ Below w.heap.size w w'
theorem readPost_of {l : Bs} {w w' : World} {v : Value} {a b : Int} {t : List Tok} {x y : Nat} (h : read l = (t, x, y)) (ha : a = x) (hb : b = y) (ht : Toks w' v t) (hbl : Below w.heap.size w w') :
    ReadPost l w (.returned (.tuple #[v, .int .i64 a, .int .i64 b])) w' := by
  subst ha; subst hb
  exact ⟨v, by rw [h], by rw [h]; exact ht, hbl⟩
theorem Toks.none_ (w : World) : Toks w (.slice none 0 0) [] := ⟨none, 0, rfl, Nat.le_refl _, Reads.none_⟩
set_option maxRecDepth 100000 in
set_option maxHeartbeats 2000000 in
theorem read_any (l : Bs) (w : World) (hE : Env w) (hl : l.length ≤ 100000000) :
    Calls Tryd.prog 10 #[.string (ofL l)] w (ReadPost l w) := by
  have HE := Lib.hid hE; clear hE
  by_cases hc : (check l).2 = 0
  case neg =>
    have hc' : ((check l).2 : Int) != 0 := by simpa using hc
    have HC := Lib.hid (read_bad l hc); clear hc
    go_enter Tryd.func10, Tryd.ntmps10
    go_wp2_with (go_at_call 15; refine (check_any l _ hl).mono ?_; rintro e w' ⟨rfl, rfl⟩)
    go_ret3
    exact readPost_of HC.out rfl rfl (Toks.none_ _) (Below.refl _ _)
  have hc' : (((check l).2 : Int) != 0) = false := by simp [hc]
  have HC := Lib.hid (read_good l hc); clear hc
  obtain ⟨i0, hi0, hz0, hz1, hz2⟩ := info_parts token_info
  have hsk := skip_le l
  go_enter Tryd.func10, Tryd.ntmps10
  go_wp2_with (first
    | (go_at_call 15; refine (check_any l _ hl).mono ?_; rintro e w' ⟨rfl, rfl⟩)
    | (go_at_call 16; refine (skip_any l _ hl).mono ?_; rintro e w' ⟨rfl, rfl⟩))
  go_loopw [2, 3] (fun v i wr => ∃ (f a : Nat) (acc : List Tok), i = .int .i64 a ∧ a ≤ l.length ∧ l.length < f + a ∧ acc.length ≤ 800 ∧ read l = readFrom f l a acc ∧ wr.ownsRow w.heap.size 26 3 v acc.length (rowCells acc) ∧ Below w.heap.size w wr) (fun _ i _ => l.length - (intOf i).toNat)
  case atStart => exact ⟨l.length + 1, skip l, [], rfl, hsk, by omega, by simp, HC.out, World.ownsRow_nil _ _ _ _, Below.refl _ _⟩
  case round =>
    obtain ⟨f, a, acc, rfl, ha, hf, hacc, hrd, hown, hb⟩ := hrel
    have HR := Lib.hid hrd; clear hrd
    have HF := Lib.hid hf; clear hf
    obtain ⟨A, c, rfl⟩ := own_form hown
    have HB := Lib.hid hb; clear hb
    have HO := Lib.hid hown; clear hown
    obtain ⟨f, rfl⟩ : ∃ f', f = f' + 1 := ⟨f - 1, by have := HF.out; omega⟩
    by_cases hlt : a < l.length
    · have hn : ¬ l.length ≤ a := by omega
      by_cases hk : (first (l.drop a)).1 = 0
      · have hk' : (((first (l.drop a)).1 : Int) == 0) = true := by simp [hk]
        have HK := Lib.hid (readFrom_none f l a acc hn hk); clear hk hn
        go_wp2_with (go_at_call 17; refine (first_any (l.drop a) _ (HE.out.below HB.out) (by simp; omega)).mono ?_; rintro e w' ⟨rfl, hb'⟩)
        go_ret3
        exact readPost_of (HR.out.trans HK.out) rfl rfl (Toks.none_ _) (HB.out.trans (hb'.mono HB.out.size))
      · have hk' : (((first (l.drop a)).1 : Int) == 0) = false := by simpa using hk
        have hfl := first_len (l.drop a) hk
        rw [List.length_drop] at hfl
        obtain ⟨hfl1, hfl2⟩ := hfl
        by_cases h8 : acc.length = 800
        · have h8' : ((acc.length : Int) == 800) = true := by simp [h8]
          have HK := Lib.hid (readFrom_full f l a acc hn hk h8); clear hk hn h8
          go_wp2_with (go_at_call 17; refine (first_any (l.drop a) _ (HE.out.below HB.out) (by simp; omega)).mono ?_; rintro e w' ⟨rfl, hb'⟩)
          go_ret3
          exact readPost_of (HR.out.trans HK.out) rfl rfl (Toks.none_ _) (HB.out.trans (hb'.mono HB.out.size))
        · have h8' : ((acc.length : Int) == 800) = false := by simp; omega
          have HK := Lib.hid (readFrom_step f l a acc hn hk h8); clear hk hn
          have hsk2 := skip_le (l.drop (a + (first (l.drop a)).2.length))
          rw [List.length_drop] at hsk2
          go_wp2_with (first
            | (go_at_call 17; refine (first_any (l.drop a) _ (HE.out.below HB.out) (by simp; omega)).mono ?_; rintro e w' ⟨rfl, hb'⟩)
            | (go_at_call 16; refine (skip_any (l.drop (a + (first (l.drop a)).2.length)) _ (by simp; omega)).mono ?_; rintro e w'' ⟨rfl, rfl⟩)
            | (at_builtin
               refine wpList_append_own _ rfl (.tmp 46) (.tmp 51) 23 rfl w.heap.size 26 i0 _ 3 32 Tryd.underlying23 hi0 hz0 hz1 hz2 rfl (by decide) _ acc.length (rowCells acc) rfl
                 ((own_below HO.out hb').alloc _) ⟨w'.heap.size, 0, none⟩ 1 1 (tokCells ⟨(first (l.drop a)).1, (first (l.drop a)).2, (a : Int)⟩) rfl rfl (cells_new _ _ _) (tokCells_one _) (by simp only [maxLen]; omega) (by omega) (by have := HB.out.size; have := hb'.size; simp; omega) ?_
               intro v2 w2 hown2 hg2 _))
          have hbw : Below w.heap.size w w' := HB.out.trans (hb'.mono HB.out.size)
          refine ⟨⟨f, a + (first (l.drop a)).2.length + skip (l.drop (a + (first (l.drop a)).2.length)), acc ++ [⟨(first (l.drop a)).1, (first (l.drop a)).2, (a : Int)⟩], by go_num, by omega, by have := HF.out; omega, by simp; omega, HR.out.trans HK.out, ?_, ?_⟩, by simp [intOf]; omega⟩
          · rw [rowCells_append, List.length_append]; simpa [rowCells] using hown2
          · exact (hbw.alloc hbw.size _).grown hg2 (by have := hbw.size; simp; omega) (fun k hk => ((own_below HO.out hb').lt k hk).1)
    · have HK := Lib.hid (readFrom_end f l a acc (by omega))
      go_wp2
      go_ret3
      exact readPost_of (HR.out.trans HK.out) rfl rfl (Toks.of_own HO.out) HB.out
end Go.Proofs.YtpomgledekkjjaaDoor
