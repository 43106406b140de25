/-
  WALKS, seventeenth part: mistref02.Closing, token.Match.
-/
import Derived.Test.YtpomgledekkjjaaDoorWalkP
namespace Go.Proofs.YtpomgledekkjjaaDoor
open Go.RowKit Mist
attribute [local go_sem] ofL_extract ofL_size ofL_get ofL_bytes ofL_append
theorem ret_str {a b : Bs} (h : a = b) : Ending.returned (.string (ofL a)) = .returned (.string (ofL b)) := by rw [h]
def strCells (st : List Bs) : List Value := st.map fun x => Value.string (ofL x)
theorem strCells_append (a b : List Bs) : strCells (a ++ b) = strCells a ++ strCells b := by simp [strCells]
theorem string_info : (Tryd.prog.info? 9).map (fun i => (i.zero, i.size, i.bytes)) = some (some (.string ByteArray.empty), 1, 16) := by kernel_rfl
theorem alloc_keep {w : World} {m : Nat} {o : Obj} (h : w.heap[m]? = some o) (x : Obj) : (w.alloc x).heap[m]? = some o :=
  (Lib.alloc_old w x m (Array.getElem?_eq_some_iff.1 h).1).trans h
theorem grown_map {w w' : World} {v : Value} {m base e size n : Nat} {xs : List Value} {es : Array MapEntry} {c : Nat} (hg : w.grownBy w' v.ownBlock) (h : w.heap[m]? = some (.map es c)) (hown : w.ownsRow base e size v n xs) :
    w'.heap[m]? = some (.map es c) := by
  rw [hg.block m (Array.getElem?_eq_some_iff.1 h).1, h]
  intro e
  rcases hown.2 with ⟨hv, _⟩ | ⟨g, cap, cur, hv, _, hh, _⟩
  · rw [hv] at e; simp [Value.ownBlock] at e
  · rw [hv] at e; simp [Value.ownBlock] at e
    rw [e, hh] at h; simp at h
theorem own_le {w : World} {a : Addr} {c base e size n : Nat} {xs : List Value} (h : w.ownsRow base e size (.slice (some a) n c) n xs) : n ≤ c := by
  rcases h.2 with ⟨hv, _⟩ | ⟨g, cap, cur, hv, _, _, hc, _⟩
  · cases hv
  · injection hv with _ _ h3; omega
def MatchPost (l : List Tok) (a : Int) (w : World) (e : Ending) (w' : World) : Prop := e = .returned (.tuple #[.int .i64 (matchOf l a).1, .int .i64 (matchOf l a).2]) ∧ Below w.heap.size w w'
theorem matchPost_of {l : List Tok} {a : Int} {w w' : World} {x y : Int} {p q : Nat} (h : matchOf l a = (p, q)) (hx : x = p) (hy : y = q) (hb : Below w.heap.size w w') :
    MatchPost l a w (.returned (.tuple #[.int .i64 x, .int .i64 y])) w' := by
  subst hx; subst hy; exact ⟨by rw [h], hb⟩
set_option maxRecDepth 100000 in
set_option maxHeartbeats 3200000 in
theorem match_out (v : Value) (l : List Tok) (a : Int) (w : World) (hE : Env w) (hv : Toks w v l) (hok : TokOk l) (h : checkToks l ≠ 0 ∨ a < 0 ∨ (l.length : Int) ≤ a) :
    Calls Tryd.prog 5 #[v, .int .i64 a] w (MatchPost l a w) := by
  have HE := Lib.hid hE; clear hE
  have HV := Lib.hid hv; clear hv
  have HOK := Lib.hid hok; clear hok
  by_cases hc : checkToks l = 0
  case neg =>
    have hc' : ((checkToks l : Int) != 0) = true := by simpa using hc
    have HC := Lib.hid (matchOf_bad l a hc); clear hc h
    go_enter Tryd.func5, Tryd.ntmps5
    go_wp2_with fail
    go_step3
    go_wp2_with (go_at_call 8; refine (tcheck_any v l _ HE.out HV.out HOK.out).mono ?_; rintro e w' ⟨rfl, hb⟩)
    rw [Exit.noGoto_ret]
    go_ret2
    exact matchPost_of HC.out rfl rfl hb
  have hc' : ((checkToks l : Int) != 0) = false := by simp [hc]
  have hn : a < 0 ∨ (l.length : Int) ≤ a := by
    rcases h with h | h
    · exact absurd hc h
    · exact h
  have HC := Lib.hid (matchOf_none l a hc (by rcases hn with h | h <;> simp [h])); clear hc h
  obtain ⟨A, c, rfl⟩ : ∃ A c, v = .slice A l.length c := by obtain ⟨A, c, h, _⟩ := HV.out; exact ⟨A, c, h⟩
  have hlen := Int.natCast_nonneg l.length
  by_cases h0 : a < 0
  · clear hn
    go_enter Tryd.func5, Tryd.ntmps5
    go_wp2_with fail
    go_step3
    go_wp2_with (first
      | (go_at_call 8; refine (tcheck_any _ l _ HE.out HV.out HOK.out).mono ?_; rintro e w' ⟨rfl, hb⟩)
      | (go_at_call 9; refine (closing_any _).mono ?_; rintro e w2 ⟨rfl, rfl⟩))
    rw [Exit.noGoto_ret]
    go_ret2
    exact matchPost_of HC.out rfl rfl (hb.alloc hb.size _)
  · have h1 : (l.length : Int) ≤ a := by omega
    clear hn
    go_enter Tryd.func5, Tryd.ntmps5
    go_wp2_with fail
    go_step3
    go_wp2_with (first
      | (go_at_call 8; refine (tcheck_any _ l _ HE.out HV.out HOK.out).mono ?_; rintro e w' ⟨rfl, hb⟩)
      | (go_at_call 9; refine (closing_any _).mono ?_; rintro e w2 ⟨rfl, rfl⟩))
    rw [Exit.noGoto_ret]
    go_ret2
    exact matchPost_of HC.out rfl rfl (hb.alloc hb.size _)
set_option maxRecDepth 100000 in
set_option maxHeartbeats 3200000 in
theorem match_in (v : Value) (l : List Tok) (a : Nat) (w : World) (hE : Env w) (hv : Toks w v l) (hok : TokOk l) (hc : checkToks l = 0) (ha : a < l.length) :
    Calls Tryd.prog 5 #[v, .int .i64 a] w (MatchPost l a w) := by
  have HE := Lib.hid hE; clear hE
  have HV := Lib.hid hv; clear hv
  have HOK := Lib.hid hok; clear hok
  have hc' : ((checkToks l : Int) != 0) = false := by simp [hc]
  have hl8 := (checkToks_zero l hc).1
  have HC := Lib.hid hc; clear hc
  obtain ⟨b, o, c, rfl, hlc, hr⟩ := HV.out.row (by omega)
  have HR := Lib.hid hr; clear hr
  obtain ⟨i0, hi0, hz0, hz1, hz2⟩ := info_parts string_info
  have hac : ¬ c = a := by omega
  by_cases hcl : closerOf (tg l a).text = []
  · have hcl2 : (closerOf (tg l a).text).isEmpty = true := by rw [hcl]; rfl
    have HCC := Lib.hid (matchOf_none l a HC.out (.inr (.inr (by simpa using hcl)))); clear hcl
    go_enter Tryd.func5, Tryd.ntmps5
    go_wp2_with fail
    go_step3
    go_wp2_with (first
      | (go_at_call 8; refine (tcheck_any _ l _ HE.out HV.out HOK.out).mono ?_; rintro e w' ⟨rfl, hb⟩; have hbz := hb.size; have hk := (HR.out.below hb).text a ha; have hrl := (HR.out.below hb).lt)
      | (go_at_call 9; refine (closing_any _).mono ?_; rintro e w2 ⟨rfl, rfl⟩; have hrun := run_closer (w'.alloc (.map closers 3)) w'.heap.size (tg l a).text (heap_alloc_new _ _)))
    rw [Exit.noGoto_ret]
    go_ret2
    exact matchPost_of HCC.out rfl rfl (hb.alloc hbz _)
  have hd1 : decide ((a : Int) < 0) = false := by simp
  have hd2 : decide (l.length ≤ a) = false := by simp; omega
  have hcl2 : (closerOf (tg l a).text).isEmpty = false := by cases h : closerOf (tg l a).text <;> simp_all
  go_enter Tryd.func5, Tryd.ntmps5
  go_wp2_with fail
  go_step3
  go_wp2_with (first
      | (go_at_call 8; refine (tcheck_any _ l _ HE.out HV.out HOK.out).mono ?_; rintro e w' ⟨rfl, hb⟩; have hbz := hb.size; have hk := (HR.out.below hb).text a ha; have hrl := (HR.out.below hb).lt)
      | (go_at_call 9; refine (closing_any _).mono ?_; rintro e w2 ⟨rfl, rfl⟩; have hrun := run_closer (w'.alloc (.map closers 3)) w'.heap.size (tg l a).text (heap_alloc_new _ _)))
  have HHK := Lib.hid hk; clear hk hrun
  have HM := Lib.hid (heap_alloc_new w' (Obj.map closers 3))
  have HB0 := Lib.hid hb; clear hb
  have HCL := Lib.hid hcl; clear hcl
  go_step3
  go_wp2
  go_loopw [8, 39] (fun v i wr => ∃ (n q : Nat) (st : List Bs), i = .int .i64 n ∧ n ≤ l.length - a ∧ matchOf l a = matchGo st (a + n) (l.drop (a + n)) ∧ st.length = q ∧ q ≤ n ∧ (n = 0 ∨ 0 < q) ∧
      wr.ownsRow w.heap.size 9 1 v q (strCells st) ∧ Below w.heap.size w wr ∧ wr.heap[w'.heap.size]? = some (.map closers 3)) (fun _ i _ => l.length - a - (intOf i).toNat)
  case atStart => exact ⟨0, 0, [], rfl, Nat.zero_le _, matchOf_go l a HC.out ha HCL.out, rfl, Nat.le_refl _, .inl rfl, World.ownsRow_nil _ _ _ _, HB0.out.alloc HB0.out.size _, HM.out⟩
  case round =>
    obtain ⟨n, q, st, rfl, hn, hmt, hq, hqn, hnq, hown, hb, hmap⟩ := hrel
    have HMT := Lib.hid hmt; clear hmt
    have HQ := Lib.hid hq; clear hq
    have HB := Lib.hid hb; clear hb
    have HMP := Lib.hid hmap; clear hmap
    obtain ⟨A, c', rfl⟩ := own_form hown
    have HO := Lib.hid hown; clear hown
    by_cases hlt : n < l.length - a
    · have hk := (HR.out.below HB.out).kind (a + n) (by omega)
      have ht := (HR.out.below HB.out).text (a + n) (by omega)
      have hat := (HR.out.below HB.out).at_ (a + n) (by omega)
      rw [show o + (a + n) * 3 = o + a * 3 + n * 3 by omega] at hk ht hat
      have hbw := HB.out.size
      have hbl := (HR.out.below HB.out).lt
      rcases closerOf_cases (tg l (a + n)).text with ⟨h1, h⟩ | ⟨h1, h⟩ | ⟨h1, h⟩ | ⟨h1, h2, h3, h⟩
      · have b1 : ((tg l (a + n)).text == [40]) = true := by simpa using h1
        have hrun := run_closer (wr.alloc (.cells #[.int .u8 (tg l (a + n)).kind, .string (ofL (tg l (a + n)).text), .int .i64 (tg l (a + n)).at_] 26)) w'.heap.size (tg l (a + n)).text (alloc_keep HMP.out _)
        have hne : closerOf (tg l (a + n)).text ≠ [] := by rw [h]; simp
        have hgo := matchGo_open l (a + n) (by omega) st (a + n) hne
        have HG := Lib.hid hgo; clear hgo hne
        have HX := Lib.hid h1; clear h1
        have HY := Lib.hid h; clear h
        have HN := Lib.hid (show ∀ j u, [Value.string (ofL (closerOf (tg l (a + n)).text))][j]? = some u → ((wr.alloc (.cells #[.int .u8 (tg l (a + n)).kind, .string (ofL (tg l (a + n)).text), .int .i64 (tg l (a + n)).at_] 26)).alloc (.cells #[.string (ofL (closerOf (tg l (a + n)).text))] 9)).cell? ((⟨wr.heap.size + 1, 0, none⟩ : Addr).add j) = some u by
          have h := cells_new (wr.alloc (.cells #[.int .u8 (tg l (a + n)).kind, .string (ofL (tg l (a + n)).text), .int .i64 (tg l (a + n)).at_] 26)) [.string (ofL (closerOf (tg l (a + n)).text))] 9
          rw [World.size_alloc] at h; exact h)
        go_wp2_with (at_builtin
                     refine wpList_append_own _ rfl (.tmp 50) (.tmp 55) 38 rfl w.heap.size 9 i0 _ 1 16 Tryd.underlying38 hi0 hz0 hz1 hz2 rfl (by decide) _ q (strCells st) rfl
                       ((HO.out.alloc _).alloc _) ⟨wr.heap.size + 1, 0, none⟩ 1 1 [.string (ofL (closerOf (tg l (a + n)).text))] rfl rfl HN.out (by intro u hu; simp at hu; subst hu; rfl) (by simp only [maxLen]; omega) (by omega) (by simp; omega) ?_
                     intro v2 w2 hown2 hg2 _)
        have hbw2 : Below w.heap.size w w2 := ((HB.out.alloc hbw _).alloc (by simp; omega) _).grown hg2 (by simp; omega) (fun k hk => (HO.out.lt k hk).1)
        refine ⟨⟨n + 1, q + 1, st ++ [closerOf (tg l (a + n)).text], by go_num, by omega, HMT.out.trans HG.out, by simp [HQ.out], by omega, .inr (by omega), ?_, hbw2, ?_⟩, by simp [intOf]; omega⟩
        · rw [strCells_append]; exact hown2
        · exact grown_map hg2 (alloc_keep (alloc_keep HMP.out _) _) ((HO.out.alloc _).alloc _)
      · have b1 : ((tg l (a + n)).text == [40]) = false := by rw [h1]; decide
        have b2 : ((tg l (a + n)).text == [91]) = true := by simpa using h1
        have hrun := run_closer (wr.alloc (.cells #[.int .u8 (tg l (a + n)).kind, .string (ofL (tg l (a + n)).text), .int .i64 (tg l (a + n)).at_] 26)) w'.heap.size (tg l (a + n)).text (alloc_keep HMP.out _)
        have hne : closerOf (tg l (a + n)).text ≠ [] := by rw [h]; simp
        have hgo := matchGo_open l (a + n) (by omega) st (a + n) hne
        have HG := Lib.hid hgo; clear hgo hne
        have HX := Lib.hid h1; clear h1
        have HY := Lib.hid h; clear h
        have HN := Lib.hid (show ∀ j u, [Value.string (ofL (closerOf (tg l (a + n)).text))][j]? = some u → ((wr.alloc (.cells #[.int .u8 (tg l (a + n)).kind, .string (ofL (tg l (a + n)).text), .int .i64 (tg l (a + n)).at_] 26)).alloc (.cells #[.string (ofL (closerOf (tg l (a + n)).text))] 9)).cell? ((⟨wr.heap.size + 1, 0, none⟩ : Addr).add j) = some u by
          have h := cells_new (wr.alloc (.cells #[.int .u8 (tg l (a + n)).kind, .string (ofL (tg l (a + n)).text), .int .i64 (tg l (a + n)).at_] 26)) [.string (ofL (closerOf (tg l (a + n)).text))] 9
          rw [World.size_alloc] at h; exact h)
        go_wp2_with (at_builtin
                     refine wpList_append_own _ rfl (.tmp 50) (.tmp 55) 38 rfl w.heap.size 9 i0 _ 1 16 Tryd.underlying38 hi0 hz0 hz1 hz2 rfl (by decide) _ q (strCells st) rfl
                       ((HO.out.alloc _).alloc _) ⟨wr.heap.size + 1, 0, none⟩ 1 1 [.string (ofL (closerOf (tg l (a + n)).text))] rfl rfl HN.out (by intro u hu; simp at hu; subst hu; rfl) (by simp only [maxLen]; omega) (by omega) (by simp; omega) ?_
                     intro v2 w2 hown2 hg2 _)
        have hbw2 : Below w.heap.size w w2 := ((HB.out.alloc hbw _).alloc (by simp; omega) _).grown hg2 (by simp; omega) (fun k hk => (HO.out.lt k hk).1)
        refine ⟨⟨n + 1, q + 1, st ++ [closerOf (tg l (a + n)).text], by go_num, by omega, HMT.out.trans HG.out, by simp [HQ.out], by omega, .inr (by omega), ?_, hbw2, ?_⟩, by simp [intOf]; omega⟩
        · rw [strCells_append]; exact hown2
        · exact grown_map hg2 (alloc_keep (alloc_keep HMP.out _) _) ((HO.out.alloc _).alloc _)
      · have b1 : ((tg l (a + n)).text == [40]) = false := by rw [h1]; decide
        have b2 : ((tg l (a + n)).text == [91]) = false := by rw [h1]; decide
        have b3 : ((tg l (a + n)).text == [123]) = true := by simpa using h1
        have hrun := run_closer (wr.alloc (.cells #[.int .u8 (tg l (a + n)).kind, .string (ofL (tg l (a + n)).text), .int .i64 (tg l (a + n)).at_] 26)) w'.heap.size (tg l (a + n)).text (alloc_keep HMP.out _)
        have hne : closerOf (tg l (a + n)).text ≠ [] := by rw [h]; simp
        have hgo := matchGo_open l (a + n) (by omega) st (a + n) hne
        have HG := Lib.hid hgo; clear hgo hne
        have HX := Lib.hid h1; clear h1
        have HY := Lib.hid h; clear h
        have HN := Lib.hid (show ∀ j u, [Value.string (ofL (closerOf (tg l (a + n)).text))][j]? = some u → ((wr.alloc (.cells #[.int .u8 (tg l (a + n)).kind, .string (ofL (tg l (a + n)).text), .int .i64 (tg l (a + n)).at_] 26)).alloc (.cells #[.string (ofL (closerOf (tg l (a + n)).text))] 9)).cell? ((⟨wr.heap.size + 1, 0, none⟩ : Addr).add j) = some u by
          have h := cells_new (wr.alloc (.cells #[.int .u8 (tg l (a + n)).kind, .string (ofL (tg l (a + n)).text), .int .i64 (tg l (a + n)).at_] 26)) [.string (ofL (closerOf (tg l (a + n)).text))] 9
          rw [World.size_alloc] at h; exact h)
        go_wp2_with (at_builtin
                     refine wpList_append_own _ rfl (.tmp 50) (.tmp 55) 38 rfl w.heap.size 9 i0 _ 1 16 Tryd.underlying38 hi0 hz0 hz1 hz2 rfl (by decide) _ q (strCells st) rfl
                       ((HO.out.alloc _).alloc _) ⟨wr.heap.size + 1, 0, none⟩ 1 1 [.string (ofL (closerOf (tg l (a + n)).text))] rfl rfl HN.out (by intro u hu; simp at hu; subst hu; rfl) (by simp only [maxLen]; omega) (by omega) (by simp; omega) ?_
                     intro v2 w2 hown2 hg2 _)
        have hbw2 : Below w.heap.size w w2 := ((HB.out.alloc hbw _).alloc (by simp; omega) _).grown hg2 (by simp; omega) (fun k hk => (HO.out.lt k hk).1)
        refine ⟨⟨n + 1, q + 1, st ++ [closerOf (tg l (a + n)).text], by go_num, by omega, HMT.out.trans HG.out, by simp [HQ.out], by omega, .inr (by omega), ?_, hbw2, ?_⟩, by simp [intOf]; omega⟩
        · rw [strCells_append]; exact hown2
        · exact grown_map hg2 (alloc_keep (alloc_keep HMP.out _) _) ((HO.out.alloc _).alloc _)
      · have b1 : ((tg l (a + n)).text == [40]) = false := by simpa using h1
        have b2 : ((tg l (a + n)).text == [91]) = false := by simpa using h2
        have b3 : ((tg l (a + n)).text == [123]) = false := by simpa using h3
        have HY := Lib.hid h; clear h h1 h2 h3
        cases hic : isCloser (tg l (a + n)).text
        · have hgo := matchGo_other l (a + n) (by omega) st (a + n) HY.out hic
          have HG := Lib.hid hgo; clear hgo
          have hic2 := hic
          unfold isCloser at hic2
          simp only [Bool.or_eq_false_iff] at hic2
          obtain ⟨⟨b4, b5⟩, b6⟩ := hic2
          have HI := Lib.hid hic; clear hic
          have hn0 : 0 < n := by
            rcases Nat.eq_zero_or_pos n with h | h
            · subst h; exact absurd HY.out HCL.out
            · exact h
          go_wp2
          refine ⟨⟨n + 1, q, st, by go_num, by omega, HMT.out.trans HG.out, HQ.out, by omega, .inr (by omega), HO.out.alloc _, HB.out.alloc hbw _, alloc_keep HMP.out _⟩, by simp [intOf]; omega⟩
        · have hn0 : 0 < n := by
            rcases Nat.eq_zero_or_pos n with h | h
            · subst h; exact absurd HY.out HCL.out
            · exact h
          obtain ⟨g, cap, hv, _, _⟩ := HO.out.form (by omega)
          injection hv with hA _ hc2
          subst hA hc2
          obtain ⟨q, rfl⟩ : ∃ q', q = q' + 1 := ⟨q - 1, by omega⟩
          have htop : wr.cell? ⟨g, q, none⟩ = some (.string (ofL (sg st q))) := by
            have := HO.out.cells (g := g) rfl q (.string (ofL (sg st q))) (by
              have hq1 : q < st.length := by have := HQ.out; omega
              simp [strCells, sg, hq1])
            simpa [Addr.add_lit] using this
          have hls := last_eq st (by have := HQ.out; omega)
          rw [show st.length - 1 = q by have := HQ.out; omega] at hls
          have hspl := last_split st (by have := HQ.out; omega)
          rw [show st.length - 1 = q by have := HQ.out; omega] at hspl
          have hdl : st.dropLast.length = q := by rw [List.length_dropLast, HQ.out]; rfl
          have HSPL := Lib.hid hspl; clear hspl
          have HDL := Lib.hid hdl; clear hdl
          have hic2 := hic
          have hbs : ((tg l (a + n)).text == [41]) = true ∨ (((tg l (a + n)).text == [41]) = false ∧ ((tg l (a + n)).text == [93]) = true) ∨ (((tg l (a + n)).text == [41]) = false ∧ ((tg l (a + n)).text == [93]) = false ∧ ((tg l (a + n)).text == [125]) = true) := by
            unfold isCloser at hic2
            cases h4 : ((tg l (a + n)).text == [41])
            · cases h5 : ((tg l (a + n)).text == [93])
              · rw [h4, h5] at hic2
                exact .inr (.inr ⟨rfl, rfl, by simpa using hic2⟩)
              · exact .inr (.inl ⟨rfl, rfl⟩)
            · exact .inl rfl
          clear hic2
          have hwr : IntKind.i64.wrap ((q : Int) + 1 - 1) = (q : Int) := by rw [Int.add_sub_cancel]; exact IntWalk.i64_in _ (by omega)
          have HIC := Lib.hid hic; clear hic
          have HGL := Lib.hid (HO.out.lt g rfl)
          have hcap := own_le HO.out
          by_cases htx : sg st q = (tg l (a + n)).text
          · have hq2 : (sg st q == (tg l (a + n)).text) = true := by simp [htx]
            have HLS := Lib.hid (show st.getLast? = some (tg l (a + n)).text by rw [hls, htx]); clear hls htx
            by_cases hq0 : q = 0
            · have hqz : ((q : Int) == 0) = true := by simp [hq0]
              have HG := Lib.hid (matchGo_done l (a + n) (by omega) st (a + n) HY.out HIC.out HLS.out (by rw [HQ.out]; omega))
              clear hq0
              rcases hbs with b4 | ⟨b4, b5⟩ | ⟨b4, b5, b6⟩
              all_goals
                go_wp2
                go_quiet (fail)
                clear hwr
                go_wp2
                rw [Exit.noGoto_ret]
                go_ret2
                exact matchPost_of (HMT.out.trans HG.out) (by simp) rfl (bdrewN (HB.out.alloc hbw _) _)
            · have hqz : ((q : Int) == 0) = false := by simp; omega
              have HG := Lib.hid (matchGo_pop l (a + n) (by omega) st (a + n) HY.out HIC.out HLS.out (by rw [HQ.out]; omega))
              have HPOP := Lib.hid (ownsRow_pop (size := 1) (n := q) (xs := strCells st.dropLast) (last := [.string (ofL (sg st q))]) (by simp only [strCells, List.length_map]; rw [HDL.out]; omega) (by
                have e : strCells st = strCells st.dropLast ++ [.string (ofL (sg st q))] := (congrArg strCells HSPL.out).trans (strCells_append _ _)
                have h := HO.out
                rw [e] at h
                exact h))
              rcases hbs with b4 | ⟨b4, b5⟩ | ⟨b4, b5, b6⟩
              all_goals
                go_wp2
                go_quiet (fail)
                clear hwr
                go_wp2
                exact ⟨⟨n + 1, q, st.dropLast, by go_num, by omega, HMT.out.trans HG.out, HDL.out, by omega, .inr (by omega), HPOP.out.alloc _, bdrewN (HB.out.alloc hbw _) _, alloc_keep HMP.out _⟩, by simp [intOf]; omega⟩
          · have hq2 : (sg st q == (tg l (a + n)).text) = false := by simpa using htx
            have HG := Lib.hid (matchGo_wrong l (a + n) (by omega) st (a + n) HY.out HIC.out (by rw [hls]; intro h; exact htx (Option.some.inj h)))
            clear hls htx
            rcases hbs with b4 | ⟨b4, b5⟩ | ⟨b4, b5, b6⟩
            all_goals
              go_wp2
              go_quiet (fail)
              clear hwr
              go_wp2
              rw [Exit.noGoto_ret]
              go_ret2
              exact matchPost_of (HMT.out.trans HG.out) rfl rfl (bdrewN (HB.out.alloc hbw _) _)
    · have HG := Lib.hid (matchGo_end l (a + n) (by omega) st (a + n))
      go_wp2
      rw [Exit.noGoto_ret]
      go_ret2
      exact matchPost_of (HMT.out.trans HG.out) rfl rfl HB.out
theorem match_any (v : Value) (l : List Tok) (a : Int) (w : World) (hE : Env w) (hv : Toks w v l) (hok : TokOk l) :
    Calls Tryd.prog 5 #[v, .int .i64 a] w (MatchPost l a w) := by
  by_cases h : checkToks l ≠ 0 ∨ a < 0 ∨ (l.length : Int) ≤ a
  · exact match_out v l a w hE hv hok h
  · have h1 : checkToks l = 0 := by
      rcases Nat.eq_zero_or_pos (checkToks l) with h' | h'
      · exact h'
      · exact absurd (.inl (by omega)) h
    obtain ⟨k, rfl⟩ : ∃ k : Nat, a = k := ⟨a.toNat, by omega⟩
    exact match_in v l k w hE hv hok h1 (by omega)
end Go.Proofs.YtpomgledekkjjaaDoor
