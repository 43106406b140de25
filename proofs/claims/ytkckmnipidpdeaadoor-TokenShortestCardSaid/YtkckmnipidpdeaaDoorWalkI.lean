/-
  WALKS, ninth part: mistref02.Read.
-/
import Derived.Test.YtkckmnipidpdeaaDoorWalkH
import Derived.Deep.RegionHeld3
import Derived.StillTactics
import Derived.Laws.Pointers
namespace Go.Proofs.YtkckmnipidpdeaaDoor
open Go.RowKit Mist
attribute [local go_sem] ofL_extract ofL_size ofL_get ofL_bytes ofL_append
set_option maxRecDepth 100000 in
set_option maxHeartbeats 3200000 in
theorem rread_any (l : Bs) (w : World) (hl : l.length ≤ 100000000) :
    Calls Tryd.prog 16 #[.string (ofL l)] w (ReadPost l w) := by
  by_cases hc : (check l).2 = 0
  case neg =>
    have hc' : ((check l).2 : Int) != 0 := by simpa using hc
    have HC := Lib.hid (read_bad l hc); clear hc
    go_enter Tryd.func16, Tryd.ntmps16
    go_wp2_with (go_at_call 45; refine (rcheck_any l _ hl).mono ?_; rintro e w' ⟨rfl, rfl⟩)
    go_ret3
    exact readPost_of HC.out rfl rfl (Toks.none_ _) (Below.refl _ _)
  have hc' : (((check l).2 : Int) != 0) = false := by simp [hc]
  have HC := Lib.hid (read_good l hc); clear hc
  obtain ⟨i0, hi0, hz0, hz1, hz2⟩ := info_parts token_info
  have hsk := skip_le l
  have hg0 := fun w => gapat_any l 0 w hl (Nat.zero_le _)
  simp only [List.drop_zero, Int.natCast_zero, Int.zero_add] at hg0
  have HG0 := Lib.hid hg0; clear hg0
  go_enter Tryd.func16, Tryd.ntmps16
  go_wp2_with (first
    | (go_at_call 45; refine (rcheck_any l _ hl).mono ?_; rintro e w' ⟨rfl, rfl⟩)
    | (go_at_call 46; refine (HG0.out _).mono ?_; rintro e w' ⟨rfl, rfl⟩))
  go_loopw [7, 8] (fun v i wr => ∃ (f a : Nat) (acc : List Tok), i = .int .i64 a ∧ a ≤ l.length ∧ l.length < f + a ∧ acc.length ≤ 800 ∧ Mist.read l = readFrom f l a acc ∧ wr.ownsRow w.heap.size 38 3 v acc.length (rowCells acc) ∧ Below w.heap.size w wr) (fun _ i _ => l.length - (intOf i).toNat)
  case atStart => exact ⟨l.length + 1, skip l, [], rfl, hsk, by omega, by simp, HC.out, World.ownsRow_made _ _ _ (Nat.le_refl _) (by simp [maxLen]) rfl, (Below.refl _ _).alloc (Nat.le_refl _) _⟩
  case round =>
    obtain ⟨f, a, acc, rfl, ha, hf, hacc, hrd, hown, hb⟩ := hrel
    have HR := Lib.hid hrd; clear hrd
    have HF := Lib.hid hf; clear hf
    obtain ⟨A, c, rfl⟩ := own_form hown
    have HB := Lib.hid hb; clear hb
    have HO := Lib.hid hown; clear hown
    obtain ⟨f, rfl⟩ : ∃ f', f = f' + 1 := ⟨f - 1, by have := HF.out; omega⟩
    by_cases hlt : a < l.length
    · have hn : ¬ l.length ≤ a := by omega
      by_cases hk : (first (l.drop a)).1 = 0
      · have hk' : (((first (l.drop a)).1 : Int) == 0) = true := by simp [hk]
        have HK := Lib.hid (readFrom_none f l a acc hn hk); clear hk hn
        go_wp2_with (go_at_call 47; refine (rfirst_val l a _ hl ha).mono ?_; rintro e w' ⟨rfl, hb'⟩)
        go_ret3
        have hbw : Below w.heap.size w w' := HB.out.trans (hb'.mono HB.out.size)
        exact readPost_of (HR.out.trans HK.out) rfl rfl (Toks.none_ _) (hbw.alloc hbw.size _)
      · have hk' : (((first (l.drop a)).1 : Int) == 0) = false := by simpa using hk
        have hfl := first_len (l.drop a) hk
        rw [List.length_drop] at hfl
        obtain ⟨hfl1, hfl2⟩ := hfl
        by_cases h8 : acc.length = 800
        · have h8' : ((acc.length : Int) == 800) = true := by simp [h8]
          have HK := Lib.hid (readFrom_full f l a acc hn hk h8); clear hk hn h8
          go_wp2_with (go_at_call 47; refine (rfirst_val l a _ hl ha).mono ?_; rintro e w' ⟨rfl, hb'⟩)
          go_ret3
          have hbw : Below w.heap.size w w' := HB.out.trans (hb'.mono HB.out.size)
          exact readPost_of (HR.out.trans HK.out) rfl rfl (Toks.none_ _) (hbw.alloc hbw.size _)
        · have h8' : ((acc.length : Int) == 800) = false := by simp; omega
          have hfa : fat (l.drop a) a = a := by unfold fat; rw [if_neg hk]
          have HFA := Lib.hid hfa; clear hfa
          have HK := Lib.hid (readFrom_step f l a acc hn hk h8); clear hk hn
          have hsk2 := skip_le (l.drop (a + (first (l.drop a)).2.length))
          rw [List.length_drop] at hsk2
          go_wp2_with (go_at_call 47; refine (rfirst_val l a _ hl ha).mono ?_; rintro e w' ⟨rfl, hb'⟩)
          have hbw : Below w.heap.size w w' := HB.out.trans (hb'.mono HB.out.size)
          have HBW := Lib.hid (hbw.alloc hbw.size (Obj.cells #[Value.int IntKind.u8 (first (l.drop a)).1, Value.string (ofL (first (l.drop a)).2), Value.int IntKind.i64 (fat (l.drop a) a)] 38))
          have HOW := Lib.hid ((own_below HO.out hb').alloc (Obj.cells #[Value.int IntKind.u8 (first (l.drop a)).1, Value.string (ofL (first (l.drop a)).2), Value.int IntKind.i64 (fat (l.drop a) a)] 38))
          have hlw := fun k hk => ((own_below HO.out hb').lt k hk).2
          have hnew := heap_alloc_new w' (Obj.cells #[Value.int IntKind.u8 (first (l.drop a)).1, Value.string (ofL (first (l.drop a)).2), Value.int IntKind.i64 (fat (l.drop a) a)] 38)
          have hsz : w'.heap.size < (w'.alloc (Obj.cells #[Value.int IntKind.u8 (first (l.drop a)).1, Value.string (ofL (first (l.drop a)).2), Value.int IntKind.i64 (fat (l.drop a) a)] 38)).heap.size := by simp
          obtain ⟨W, hW⟩ : ∃ W, W = w'.alloc (Obj.cells #[Value.int IntKind.u8 (first (l.drop a)).1, Value.string (ofL (first (l.drop a)).2), Value.int IntKind.i64 (fat (l.drop a) a)] 38) := ⟨_, rfl⟩
          rw [← hW] at HBW HOW hnew hsz ⊢
          clear hW hb' hbw
          obtain ⟨g, hg⟩ : ∃ g, g = w'.heap.size := ⟨_, rfl⟩
          rw [← hg] at hlw hnew hsz ⊢
          clear hg
          have c0 : W.cell? ⟨g, 0, none⟩ = some (.int .u8 (first (l.drop a)).1) := by rw [Lib.cell_of_heap hnew]; rfl
          have c1 : W.cell? ⟨g, 1, none⟩ = some (.string (ofL (first (l.drop a)).2)) := by rw [Lib.cell_of_heap hnew]; rfl
          have c2 : W.cell? ⟨g, 2, none⟩ = some (.int .i64 (fat (l.drop a) a)) := by rw [Lib.cell_of_heap hnew]; rfl
          clear hnew
          have ag : (Value.slice A acc.length c).ownBlock ≠ some g := fun h => by have := hlw g h; omega
          clear hlw
          have hwr : IntKind.i64.wrap ((a : Int) + ((first (l.drop a)).2.length : Int)) = (a : Int) + ((first (l.drop a)).2.length : Int) := IntWalk.i64_in _ (by omega)
          go_region_held3 (fun w' => w'.cell? ⟨g, 0, none⟩ = some (.int .u8 (first (l.drop a)).1) ∧ w'.cell? ⟨g, 1, none⟩ = some (.string (ofL (first (l.drop a)).2)) ∧ w'.cell? ⟨g, 2, none⟩ = some (.int .i64 (fat (l.drop a) a)))
            (first
              | go_keep
              | (go_split_ands
                 refine ⟨?_, ?_, ?_⟩
                 · (rw [hgrow.cell_far _ (by simp; omega) (Ne.symm ag)]; assumption)
                 · (rw [hgrow.cell_far _ (by simp; omega) (Ne.symm ag)]; assumption)
                 · (rw [hgrow.cell_far _ (by simp; omega) (Ne.symm ag)]; assumption)))
            (first
              | (go_at_call 46; refine (gapat_any l (a + (first (l.drop a)).2.length) _ hl (by omega)).mono ?_; rintro e w' ⟨rfl, rfl⟩)
              | (refine step_append_lies _ (by rfl) _ _ _ (by rfl) w.heap.size 38 i0 _ 3 32 Tryd.underlying23 hi0 hz0 hz1 hz2 rfl (by omega) _ acc.length (rowCells acc) (by rfl) ((HOW.out.alloc _).drew)
                   ⟨W.heap.size, 0, none⟩ 1 1 (tokCells ⟨(first (l.drop a)).1, (first (l.drop a)).2, fat (l.drop a) a⟩) (by rfl) (by rfl) (World.news_of_block (cs := #[.int .u8 (first (l.drop a)).1, .string (ofL (first (l.drop a)).2), .int .i64 (fat (l.drop a) a)]) (t := 38) (fr := (0, 0)) (heap_alloc_new W _)) (tokCells_one _)
                   (by omega) (by simp only [maxLen]; omega) (by omega) (by have := HBW.out.size; simp; omega) (W.heap.size + 1) (by simp) ?_; intro gg cap w1 hown1 hgrow hat hlt))
          clear hwr
          go_wp2
          refine ⟨⟨f, a + (first (l.drop a)).2.length + skip (l.drop (a + (first (l.drop a)).2.length)), acc ++ [⟨(first (l.drop a)).1, (first (l.drop a)).2, (a : Int)⟩], by go_num, by omega, by have := HF.out; omega, by simp; omega, HR.out.trans HK.out, ?_, ?_⟩, by simp [intOf]; omega⟩
          · rw [rowCells_append, List.length_append, ← HFA.out]; simpa [rowCells] using hown1
          · exact (HBW.out.drew.alloc (by have := HBW.out.size; simpa using this) _).grown hgrow (by have := HBW.out.size; simp; omega) (fun k hk => (HOW.out.lt k hk).1)
    · have HK := Lib.hid (readFrom_end f l a acc (by omega))
      go_wp2
      go_ret3
      exact readPost_of (HR.out.trans HK.out) rfl rfl (Toks.of_own HO.out) HB.out
end Go.Proofs.YtkckmnipidpdeaaDoor
