/-
  WALKS: mistref02.Match.
-/
import Derived.Test.YtkckmnipidpdeaaDoorWalkQ
import Derived.Test.YtkckmnipidpdeaaDoorWalkW
namespace Go.Proofs.YtkckmnipidpdeaaDoor
open Go.RowKit Mist
attribute [local go_sem] ofL_extract ofL_size ofL_get ofL_bytes ofL_append
set_option maxRecDepth 100000 in
set_option maxHeartbeats 4000000 in
theorem rmatch_out (v : Value) (l : List Tok) (a : Int) (w : World) (hv : Toks w v l) (hok : TokOk l) (h : checkToks l ≠ 0 ∨ a < 0 ∨ (l.length : Int) ≤ a) :
    Calls Tryd.prog 23 #[v, .int .i64 a] w (MatchPost l a w) := by
  have HV := Lib.hid hv; clear hv
  have HOK := Lib.hid hok; clear hok
  obtain ⟨A, c, rfl⟩ : ∃ A c, v = .slice A l.length c := by obtain ⟨A, c, h, _⟩ := HV.out; exact ⟨A, c, h⟩
  by_cases hc : checkToks l = 0
  case neg =>
    have hc' : ((checkToks l : Int) != 0) = true := by simp; omega
    have HC := Lib.hid (matchOf_bad l a hc); clear hc h
    go_enter Tryd.func23, Tryd.ntmps23
    go_wp2_with (go_at_call 34; refine (rtcheck_any _ l _ HV.out HOK.out).mono ?_; rintro e w' ⟨rfl, hb⟩)
    go_ret2
    exact matchPost_of HC.out rfl rfl hb
  have hc' : ((checkToks l : Int) != 0) = false := by simp; omega
  have hl8 := (checkToks_zero l hc).1
  have hor : a < 0 ∨ (l.length : Int) ≤ a := h.resolve_left (by simpa using hc)
  have HC := Lib.hid (matchOf_none l a hc (hor.imp id fun h => .inl h)); clear hc h
  rcases hor with ha | ha
  · go_enter Tryd.func23, Tryd.ntmps23
    go_wp2_with (go_at_call 34; refine (rtcheck_any _ l _ HV.out HOK.out).mono ?_; rintro e w' ⟨rfl, hb⟩)
    go_ret2
    exact matchPost_of HC.out rfl rfl hb
  · obtain ⟨k, rfl⟩ : ∃ k : Nat, a = k := ⟨a.toNat, by omega⟩
    have hd2 : l.length ≤ k := by omega
    go_enter Tryd.func23, Tryd.ntmps23
    go_wp2_with (go_at_call 34; refine (rtcheck_any _ l _ HV.out HOK.out).mono ?_; rintro e w' ⟨rfl, hb⟩)
    go_ret2
    exact matchPost_of HC.out rfl rfl hb
set_option maxRecDepth 100000 in
set_option maxHeartbeats 4000000 in
theorem rmatch_in (v : Value) (l : List Tok) (a : Nat) (w : World) (hv : Toks w v l) (hok : TokOk l) (hc : checkToks l = 0) (ha : a < l.length) :
    Calls Tryd.prog 23 #[v, .int .i64 a] w (MatchPost l a w) := by
  have HV := Lib.hid hv; clear hv
  have HOK := Lib.hid hok; clear hok
  have hc' : ((checkToks l : Int) != 0) = false := by simp; omega
  have hl8 := (checkToks_zero l hc).1
  have HC := Lib.hid hc; clear hc
  obtain ⟨b, o, c, rfl, hlc, hr⟩ := HV.out.row (by omega)
  have HR := Lib.hid hr; clear hr
  obtain ⟨i0, hi0, hz0, hz1, hz2⟩ := info_parts string_info
  have hd2 : decide (l.length ≤ a) = false := by simp; omega
  by_cases hcl : closerOf (tg l a).text = []
  · have hcl2 : (closerOf (tg l a).text).isEmpty = true := by rw [hcl]; rfl
    have HCC := Lib.hid (matchOf_none l a HC.out (.inr (.inr (by simpa using hcl)))); clear hcl
    go_enter Tryd.func23, Tryd.ntmps23
    go_wp2_with (first
      | (go_at_call 34; refine (rtcheck_any _ l _ HV.out HOK.out).mono ?_; rintro e w' ⟨rfl, hb⟩; have hbz := hb.size; have hk := (HR.out.below hb).text a ha; have hrl := (HR.out.below hb).lt)
      | (go_at_call 51; refine (rclosing_any _ _).mono ?_; rintro e w2 ⟨rfl, rfl⟩))
    go_ret2
    exact matchPost_of HCC.out rfl rfl hb
  have hcl2 : (closerOf (tg l a).text).isEmpty = false := by cases h : closerOf (tg l a).text <;> simp_all
  have HCL := Lib.hid hcl; clear hcl
  go_enter Tryd.func23, Tryd.ntmps23
  go_wp2_with (first
      | (go_at_call 34; refine (rtcheck_any _ l _ HV.out HOK.out).mono ?_; rintro e w' ⟨rfl, hb⟩; have hbz := hb.size; have hk := (HR.out.below hb).text a ha; have hrl := (HR.out.below hb).lt)
      | (go_at_call 51; refine (rclosing_any _ _).mono ?_; rintro e w2 ⟨rfl, rfl⟩))
  have HHK := Lib.hid hk; clear hk
  have HB0 := Lib.hid hb; clear hb
  go_loopw [7, 8] (fun v i wr => ∃ (n q : Nat) (st : List Bs), i = .int .i64 n ∧ a ≤ n ∧ n ≤ l.length ∧ matchOf l a = matchGo st n (l.drop n) ∧ st.length = q ∧ q ≤ n ∧ (n = a ∨ 0 < q) ∧
      wr.ownsRow w.heap.size 9 1 v q (strCells st) ∧ Below w.heap.size w wr) (fun _ i _ => l.length - (intOf i).toNat)
  case atStart => exact ⟨a, 0, [], rfl, Nat.le_refl _, by omega, matchOf_go l a HC.out ha HCL.out, rfl, Nat.zero_le _, .inl rfl, World.ownsRow_made _ _ _ hbz (by simp [maxLen]) rfl, HB0.out.alloc HB0.out.size _⟩
  case round =>
    obtain ⟨n, q, st, rfl, han, hn, hmt, hq, hqn, hnq, hown, hb⟩ := hrel
    have HMT := Lib.hid hmt; clear hmt
    have HQ := Lib.hid hq; clear hq
    have HB := Lib.hid hb; clear hb
    obtain ⟨A, c', rfl⟩ := own_form hown
    have HO := Lib.hid hown; clear hown
    by_cases hlt : n < l.length
    · have ht := (HR.out.below HB.out).text n hlt
      have hbw := HB.out.size
      have hbl := (HR.out.below HB.out).lt
      by_cases hcn : closerOf (tg l n).text = []
      case neg =>
        have hcn2 : (closerOf (tg l n).text).isEmpty = false := by cases h : closerOf (tg l n).text <;> simp_all
        have HG := Lib.hid (matchGo_open l n hlt st n hcn); clear hcn
        have HN := Lib.hid (cells_new wr [.string (ofL (closerOf (tg l n).text))] 9)
        go_wp2_with (first
          | (go_at_call 51; refine (rclosing_any _ _).mono ?_; rintro e w2 ⟨rfl, rfl⟩)
          | (at_builtin
             refine wpList_append_own _ rfl (.tmp 50) (.tmp 52) 63 rfl w.heap.size 9 i0 _ 1 16 Tryd.underlying63 hi0 hz0 hz1 hz2 rfl (by decide) _ q (strCells st) rfl
               (HO.out.alloc _) ⟨wr.heap.size, 0, none⟩ 1 1 [.string (ofL (closerOf (tg l n).text))] rfl rfl HN.out (by intro u hu; simp at hu; subst hu; rfl) (by simp only [maxLen]; omega) (by omega) (by simp; omega) ?_
             intro v2 w3 hown2 hg2 _))
        have hbw2 : Below w.heap.size w w3 := (HB.out.alloc hbw _).grown hg2 (by simp; omega) (fun k hk => (HO.out.lt k hk).1)
        refine ⟨⟨n + 1, q + 1, st ++ [closerOf (tg l n).text], by go_num, by omega, by omega, HMT.out.trans HG.out, by simp [HQ.out], by omega, .inr (by omega), ?_, hbw2⟩, by simp [intOf]; omega⟩
        rw [strCells_append]; exact hown2
      have hcn2 : (closerOf (tg l n).text).isEmpty = true := by rw [hcn]; rfl
      have hna : n ≠ a := fun h => by subst h; exact HCL.out hcn
      have HY := Lib.hid hcn; clear hcn
      cases hic : isCloser (tg l n).text
      · have HG := Lib.hid (matchGo_other l n hlt st n HY.out hic)
        have hic2 := hic
        have HIC := Lib.hid hic; clear hic
        unfold isCloser at hic2
        simp only [Bool.or_eq_false_iff] at hic2
        obtain ⟨⟨b4, b5⟩, b6⟩ := hic2
        go_wp2_with (go_at_call 51; refine (rclosing_any _ _).mono ?_; rintro e w2 ⟨rfl, rfl⟩)
        exact ⟨⟨n + 1, q, st, by go_num, by omega, by omega, HMT.out.trans HG.out, HQ.out, by omega, .inr (by omega), HO.out, HB.out⟩, by simp [intOf]; omega⟩
      · obtain ⟨g, cap, hv, _, _⟩ := HO.out.form (by omega)
        injection hv with hA _ hc2
        subst hA hc2
        obtain ⟨q, rfl⟩ : ∃ q', q = q' + 1 := ⟨q - 1, by omega⟩
        have htop : wr.cell? ⟨g, q, none⟩ = some (.string (ofL (sg st q))) := by
          have := HO.out.cells (g := g) rfl q (.string (ofL (sg st q))) (by
            have hq1 : q < st.length := by have := HQ.out; omega
            simp [strCells, sg, hq1])
          simpa [Addr.add_lit] using this
        have hls := last_eq st (by have := HQ.out; omega)
        rw [show st.length - 1 = q by have := HQ.out; omega] at hls
        have hspl := last_split st (by have := HQ.out; omega)
        rw [show st.length - 1 = q by have := HQ.out; omega] at hspl
        have hdl : st.dropLast.length = q := by rw [List.length_dropLast, HQ.out]; rfl
        have HSPL := Lib.hid hspl; clear hspl
        have HDL := Lib.hid hdl; clear hdl
        have hic2 := hic
        have hbs : ((tg l n).text == [41]) = true ∨ (((tg l n).text == [41]) = false ∧ ((tg l n).text == [93]) = true) ∨ (((tg l n).text == [41]) = false ∧ ((tg l n).text == [93]) = false ∧ ((tg l n).text == [125]) = true) := by
          unfold isCloser at hic2
          cases h4 : ((tg l n).text == [41])
          · cases h5 : ((tg l n).text == [93])
            · rw [h4, h5] at hic2
              exact .inr (.inr ⟨rfl, rfl, by simpa using hic2⟩)
            · exact .inr (.inl ⟨rfl, rfl⟩)
          · exact .inl rfl
        clear hic2
        have HIC := Lib.hid hic; clear hic
        have HGL := Lib.hid (HO.out.lt g rfl)
        have hcap := own_le HO.out
        by_cases htx : sg st q = (tg l n).text
        · have hq2 : ((tg l n).text == sg st q) = true := by simp [htx]
          have HLS := Lib.hid (show st.getLast? = some (tg l n).text by rw [hls, htx]); clear hls htx
          by_cases hq0 : q = 0
          · have hqz : ((q : Int) == 0) = true := by simp [hq0]
            have HG := Lib.hid (matchGo_done l n hlt st n HY.out HIC.out HLS.out (by rw [HQ.out]; omega))
            clear hq0
            rcases hbs with b4 | ⟨b4, b5⟩ | ⟨b4, b5, b6⟩
            all_goals
              go_wp2_with (go_at_call 51; refine (rclosing_any _ _).mono ?_; rintro e w2 ⟨rfl, rfl⟩)
              go_ret2
              exact matchPost_of (HMT.out.trans HG.out) rfl rfl HB.out
          · have hqz : ((q : Int) == 0) = false := by simp; omega
            have HG := Lib.hid (matchGo_pop l n hlt st n HY.out HIC.out HLS.out (by rw [HQ.out]; omega))
            have HPOP := Lib.hid (ownsRow_pop (size := 1) (n := q) (xs := strCells st.dropLast) (last := [.string (ofL (sg st q))]) (by simp only [strCells, List.length_map]; rw [HDL.out]; omega) (by
              have e : strCells st = strCells st.dropLast ++ [.string (ofL (sg st q))] := (congrArg strCells HSPL.out).trans (strCells_append _ _)
              have h := HO.out
              rw [e] at h
              exact h))
            rcases hbs with b4 | ⟨b4, b5⟩ | ⟨b4, b5, b6⟩
            all_goals
              go_wp2_with (go_at_call 51; refine (rclosing_any _ _).mono ?_; rintro e w2 ⟨rfl, rfl⟩)
              exact ⟨⟨n + 1, q, st.dropLast, by go_num, by omega, by omega, HMT.out.trans HG.out, HDL.out, by omega, .inr (by omega), HPOP.out, HB.out⟩, by simp [intOf]; omega⟩
        · have hq2 : ((tg l n).text == sg st q) = false := by
            rw [Bool.eq_false_iff]; intro h; exact htx (by simpa using (eq_of_beq h).symm)
          have HG := Lib.hid (matchGo_wrong l n hlt st n HY.out HIC.out (by rw [hls]; intro h; exact htx (Option.some.inj h)))
          clear hls htx
          rcases hbs with b4 | ⟨b4, b5⟩ | ⟨b4, b5, b6⟩
          all_goals
            go_wp2_with (go_at_call 51; refine (rclosing_any _ _).mono ?_; rintro e w2 ⟨rfl, rfl⟩)
            go_ret2
            exact matchPost_of (HMT.out.trans HG.out) rfl rfl HB.out
    · have HG := Lib.hid (matchGo_end l n (by omega) st n)
      go_wp2
      go_ret2
      exact matchPost_of (HMT.out.trans HG.out) rfl rfl HB.out
theorem rmatch_any (v : Value) (l : List Tok) (a : Int) (w : World) (hv : Toks w v l) (hok : TokOk l) :
    Calls Tryd.prog 23 #[v, .int .i64 a] w (MatchPost l a w) := by
  by_cases h : checkToks l ≠ 0 ∨ a < 0 ∨ (l.length : Int) ≤ a
  · exact rmatch_out v l a w hv hok h
  · have h1 : checkToks l = 0 := by
      rcases Nat.eq_zero_or_pos (checkToks l) with h' | h'
      · exact h'
      · exact absurd (.inl (by omega)) h
    obtain ⟨k, rfl⟩ : ∃ k : Nat, a = k := ⟨a.toNat, by omega⟩
    exact rmatch_in v l k w hv hok h1 (by omega)
end Go.Proofs.YtkckmnipidpdeaaDoor
