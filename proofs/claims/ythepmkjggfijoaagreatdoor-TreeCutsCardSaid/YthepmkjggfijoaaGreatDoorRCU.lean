/-
  THE WALK of the reference's Cut of chapter 3.
-/
import Derived.Test.YthepmkjggfijoaaGreatDoorD03
import Derived.Test.YthepmkjggfijoaaGreatDoorB32
namespace Go.Proofs.YthepmkjggfijoaaGreatDoor
open Go.RowKit Mist
attribute [local go_sem] ofL_extract ofL_size ofL_get ofL_bytes ofL_append
theorem askE_bad {t : Tr} {n : Nat} {i : Int} (h : checkW t ≠ 0) : askE t n i = checkW t := if_pos h
theorem askE_none {t : Tr} {n : Nat} {i : Int} (h : checkW t = 0) (h2 : Mist.within i 0 ((n : Int) - 1) = false) : askE t n i = 7 := by unfold askE; rw [if_neg (by rw [h]; simp), if_pos h2]
theorem askE_ok {t : Tr} {n : Nat} {i : Int} (h : checkW t = 0) (h2 : Mist.within i 0 ((n : Int) - 1) = true) : askE t n i = 0 := by unfold askE; rw [if_neg (by rw [h]; simp), if_neg (by rw [h2]; simp)]
set_option maxRecDepth 100000 in
set_option maxHeartbeats 3000000 in
theorem rcut_any (A B : Option Addr) (c d : Nat) (xs : List NV) (its : List Int) (item : Int) (w : World) (hT : TAt w A B xs its) (hn : xs.length ≤ 10000) (hm : its.length ≤ 10000) (hl : ∀ x ∈ xs, x.1.text.length ≤ 100000000) (hnum : ∀ n ∈ nds xs, lowN ≤ n.n ∧ n.n ≤ highN) :
    Calls Tryz.prog 25 #[.agg #[.slice A xs.length c, .slice B its.length d], .int .i64 item] w fun e w' => Below w.heap.size w w' ∧
      ((askE ⟨nds xs, its⟩ its.length item ≠ 0 ∧ e = .returned (.tuple #[.agg #[.slice none 0 0, .slice none 0 0], .int .i64 (askE ⟨nds xs, its⟩ its.length item)])) ∨
       (askE ⟨nds xs, its⟩ its.length item = 0 ∧ ∃ (q la F s : Nat) (sz : List Int), item = (q : Int) ∧ its[q]? = some (la : Int) ∧ la < xs.length ∧ SzOk (nds xs) sz xs.length ∧ sz.getD la 0 = (s : Int) ∧ la + 1 = F + s ∧ ∃ nv iv ext, e = .returned (.tuple #[.agg #[nv, iv], .int .i64 0]) ∧
         RowsIn w.heap.size w' nv iv ext [(la : Int) - (F : Int)] ∧ nds ext = (((nds xs).drop F).take s).map (moveN (-(F : Int))))) := by
  have HCK := Lib.hid fun W (hb : Below w.heap.size w W) => checkR_any A B c d xs its W (hT.below hb) hn hm hl
  have HSZ := Lib.hid fun W (hb : Below w.heap.size w W) => sizes_any A B c its.length d xs its W (hT.below hb) hn
  have HEQ := Lib.hid (checkW_eq ⟨nds xs, its⟩ hnum)
  have HKI := Lib.hid fun (hR : Rooted ⟨nds xs, its⟩) (q : Nat) (cq : Int) (hq : its[q]? = some cq) => item_in hR hq
  have HCZ := Lib.hid (@checkW_zero ⟨nds xs, its⟩)
  obtain ⟨n, hnn⟩ : ∃ n, n = xs.length := ⟨_, rfl⟩
  obtain ⟨m, hmm⟩ : ∃ m, m = its.length := ⟨_, rfl⟩
  rw [← hnn] at HCK HSZ hn ⊢
  rw [← hmm] at HCK HSZ hm ⊢
  have HN := Lib.hid hnn; clear hnn
  have HM := Lib.hid hmm; clear hmm
  have HT := Lib.hid hT; clear hT
  clear hl hnum
  have HB0 := Lib.hid ((Blk.new w 26 #[.slice A n c, .slice B m d]).alloc (.cells #[.slice none 0 0, .slice none 0 0] 26))
  have HZ0 := Lib.hid (blk_topW (W := w.alloc (.cells #[.slice A n c, .slice B m d] 26)) (T := 26) (cs := #[.slice none 0 0, .slice none 0 0]) (k := w.heap.size + 1) (by simp))
  have HL0 := Lib.hid (balloc (balloc (Below.refl w.heap.size w) (Nat.le_refl _) (o := .cells #[.slice A n c, .slice B m d] 26)) (by simp) (o := .cells #[.slice none 0 0, .slice none 0 0] 26))
  go_enter Tryz.func25, Tryz.ntmps25
  go_wp2_with fail
  refine (HCK.out _ HL0.out).mono ?_
  rintro e w1 ⟨rfl, hb1⟩
  rw [← HEQ.out]
  have HB := Lib.hid (HB0.out.below hb1 HB0.out.lt)
  have HZ := Lib.hid (HZ0.out.below hb1 HZ0.out.lt)
  have HL := Lib.hid (HL0.out.trans (hb1.mono HL0.out.size))
  clear hb1 HB0 HZ0 HL0 HCK
  have t0 := HB.out.cell 0
  have t1 := HB.out.cell 1
  have v0 := HZ.out.cell 0
  have v1 := HZ.out.cell 1
  have g0 := HZ.out.frozen 0
  have g1 := HZ.out.frozen 1
  by_cases hE0 : checkW ⟨nds xs, its⟩ = 0
  case neg =>
    have HA := Lib.hid (askE_bad (n := m) (i := item) hE0)
    have HA0 := Lib.hid hE0
    obtain ⟨E, hE⟩ : ∃ E, E = checkW ⟨nds xs, its⟩ := ⟨_, rfl⟩
    rw [← hE] at hE0 ⊢
    have e1 : (E != 0) = true := by simpa using hE0
    have HE := Lib.hid hE; clear hE hE0
    go_wp2_with fail
    have HZ9 := (HZ.out.set_ 0 (.slice none 0 0)).set_ 1 (.slice none 0 0)
    have r0 := HZ9.cell 0
    have r1 := HZ9.cell 1
    refine bodyPost_ret (v := .tuple #[.agg #[.slice none 0 0, .slice none 0 0], .int .i64 E]) (by simp [results, Tryz.f25, go_sem, r0, r1]) rfl ?_
    refine ⟨bset (bset HL.out (by omega)) (by omega), .inl ⟨by rw [HA.out]; exact HA0.out, by rw [HA.out, HE.out]⟩⟩
  obtain ⟨_, hroot, out, hout⟩ := HCZ.out hE0
  have HRO := Lib.hid hroot
  have HE0 := Lib.hid hE0
  have HWF := Lib.hid (szOk_wf hout)
  obtain ⟨sz, hsz, _⟩ := Rooted.sizes hroot.fo
  have HZT := Lib.hid (show sizesTo (nds xs) n = some sz by rw [HN.out, ← nds_len]; exact (sizesTo_all ⟨nds xs, its⟩).trans hsz)
  rw [hE0]
  clear hE0 hroot hout hsz HCZ out
  by_cases hi0 : item < 0
  · have d1 : decide (item < 0) = true := decide_eq_true hi0
    have HA := Lib.hid (askE_none (n := m) (i := item) HE0.out (by unfold Mist.within; simp; omega))
    go_wp2_with fail
    have HZ9 := (HZ.out.set_ 0 (.slice none 0 0)).set_ 1 (.slice none 0 0)
    have r0 := HZ9.cell 0
    have r1 := HZ9.cell 1
    refine bodyPost_ret (v := .tuple #[.agg #[.slice none 0 0, .slice none 0 0], .int .i64 7]) (by simp [results, Tryz.f25, go_sem, r0, r1]) rfl ?_
    refine ⟨bset (bset HL.out (by omega)) (by omega), .inl ⟨by rw [HA.out]; simp, by rw [HA.out]⟩⟩
  have d1 : decide (item < 0) = false := decide_eq_false hi0
  obtain ⟨q, rfl⟩ : ∃ q : Nat, item = (q : Int) := ⟨item.toNat, by omega⟩
  by_cases hqm : m ≤ q
  · have d2 : decide (m ≤ q) = true := decide_eq_true hqm
    have d2' : decide ((m : Int) ≤ (q : Int)) = true := decide_eq_true (by omega)
    have HA := Lib.hid (askE_none (n := m) (i := (q : Int)) HE0.out (by unfold Mist.within; simp; omega))
    go_wp2_with fail
    have HZ9 := (HZ.out.set_ 0 (.slice none 0 0)).set_ 1 (.slice none 0 0)
    have r0 := HZ9.cell 0
    have r1 := HZ9.cell 1
    refine bodyPost_ret (v := .tuple #[.agg #[.slice none 0 0, .slice none 0 0], .int .i64 7]) (by simp [results, Tryz.f25, go_sem, r0, r1]) rfl ?_
    refine ⟨bset (bset HL.out (by omega)) (by omega), .inl ⟨by rw [HA.out]; simp, by rw [HA.out]⟩⟩
  have d2 : decide (m ≤ q) = false := decide_eq_false hqm
  have d2' : decide ((m : Int) ≤ (q : Int)) = false := decide_eq_false (by omega)
  have HA := Lib.hid (askE_ok (n := m) (i := (q : Int)) HE0.out (by unfold Mist.within; simp; omega))
  obtain ⟨cq, hcq⟩ : ∃ cq, its[q]? = some cq := ⟨_, List.getElem?_eq_getElem (by rw [← HM.out]; omega)⟩
  obtain ⟨la, rfl, hla⟩ := HKI.out HRO.out q cq hcq
  have hlan : la < n := by rw [HN.out, ← nds_len]; exact hla
  obtain ⟨b2, o2, rfl, hbl, hc⟩ := HT.out.items.ex (by rw [← HM.out]; omega)
  have cc := (HL.out.cell (p := ⟨b2, o2 + q, none⟩) (by exact hbl)).trans (hc q la hcq)
  have HCQ := Lib.hid hcq
  have z0 : (0 : Int) ≤ (q : Int) := by omega
  have z1 : (q : Int) < (m : Int) := by omega
  clear hc hcq hla hi0
  go_wp2_with fail
  refine (HSZ.out _ HL.out).mono ?_
  rintro e w2 ⟨hb2, h2⟩
  rcases h2 with ⟨hno, rfl⟩ | ⟨sz', v, hsz', rfl, hown⟩
  · exact absurd (HZT.out.symm.trans hno) (by simp)
  obtain rfl : sz = sz' := Option.some.inj (HZT.out.symm.trans hsz')
  have hszl : n ≤ (nds xs).length := by rw [nds_len, ← HN.out]; exact Nat.le_refl _
  have HSB := Lib.hid (sizesTo_bound hszl hsz')
  have HOK := Lib.hid (show SzOk (nds xs) sz n by
    have h9 := sizesTo_ok hszl hsz'
    rwa [List.take_of_length_le (by rw [nds_len, ← HN.out]; exact Nat.le_refl _)] at h9)
  have HB2 := Lib.hid (HB.out.below hb2 HB.out.lt)
  have HZ2 := Lib.hid (HZ.out.below hb2 HZ.out.lt)
  have HL2 := Lib.hid (HL.out.trans (hb2.mono HL.out.size))
  obtain ⟨g, cap, rfl, _, hgl, hcg⟩ := own_cell hown HSB.out.1 (by omega)
  have cg := hcg la hlan
  have hbd := HSB.out.2 la hlan
  obtain ⟨s, hs⟩ : ∃ s : Nat, sz.getD la 0 = (s : Int) := ⟨(sz.getD la 0).toNat, by omega⟩
  rw [hs] at cg hbd
  have HS := Lib.hid hs
  obtain ⟨F, hF⟩ : ∃ F, la + 1 = F + s := ⟨la + 1 - s, by omega⟩
  have hF2 : (la : Int) - (s : Int) + 1 = (F : Int) := by omega
  clear hs hcg hown hsz' hszl hb2 HB HZ HL cc t0 t1 v0 v1 g0 g1
  have t0 := HB2.out.cell 0
  have t1 := HB2.out.cell 1
  have x0 : (0 : Int) ≤ (la : Int) := by omega
  have x1 : (la : Int) < (n : Int) := by omega
  go_wp2_with fail
  have hib : w.heap.size + 1 < w2.heap.size := HZ2.out.lt
  have HR0 := Lib.hid (show RowsIn w.heap.size ((w2.alloc (.cells #[.int .i64 ((la : Int) - (F : Int))] 3)).alloc (.cells #[.slice none 0 0, .slice (some ⟨w2.heap.size, 0, none⟩) 1 1] 26)) (.slice none 0 0) (.slice (some ⟨w2.heap.size, 0, none⟩) 1 1) [] [(la : Int) - (F : Int)] from
    ⟨World.ownsRow_nil _ _ _ _, (fun x hx => by cases hx), World.ownsRow.alloc (World.ownsRow_lit w2 _ 1 (by omega) (by simp [maxLen]) rfl) _, (fun x hx => by cases hx)⟩)
  have HT0 := Lib.hid (blk_topW (W := w2.alloc (.cells #[.int .i64 ((la : Int) - (F : Int))] 3)) (T := 26) (cs := #[.slice none 0 0, .slice (some ⟨w2.heap.size, 0, none⟩) 1 1]) (k := w2.heap.size + 1) (by simp))
  have HB0 := Lib.hid ((HB2.out.alloc (.cells #[.int .i64 ((la : Int) - (F : Int))] 3)).alloc (.cells #[.slice none 0 0, .slice (some ⟨w2.heap.size, 0, none⟩) 1 1] 26))
  have HZ0 := Lib.hid ((HZ2.out.alloc (.cells #[.int .i64 ((la : Int) - (F : Int))] 3)).alloc (.cells #[.slice none 0 0, .slice (some ⟨w2.heap.size, 0, none⟩) 1 1] 26))
  have HL0 := Lib.hid (balloc (balloc HL2.out HL2.out.size (o := .cells #[.int .i64 ((la : Int) - (F : Int))] 3)) (by simp; omega) (o := .cells #[.slice none 0 0, .slice (some ⟨w2.heap.size, 0, none⟩) 1 1] 26))
  clear HB2 HZ2 HL2 cg t0 t1
  generalize (w2.alloc (.cells #[.int .i64 ((la : Int) - (F : Int))] 3)).alloc (.cells #[.slice none 0 0, .slice (some ⟨w2.heap.size, 0, none⟩) 1 1] 26) = w4 at HR0 HT0 HB0 HZ0 HL0 ⊢
  generalize w2.heap.size = ib at HR0 HT0 HB0 HZ0 HL0 hib ⊢
  obtain ⟨IV, hIV⟩ : ∃ IV, IV = Value.slice (some ⟨ib, 0, none⟩) 1 1 := ⟨_, rfl⟩
  obtain ⟨i0, hi0, hz0, hz1, hz2⟩ := info_parts node_info
  go_loopw [10] (fun i wr => ∃ (k : Nat) (nv : Value) (ext : List NV), k ≤ s ∧ i = .int .i64 ((F : Int) + k) ∧ ext.length = k ∧ Hid (nds ext = (((nds xs).drop F).take k).map (moveN (-(F : Int)))) ∧ Hid (RowsIn w.heap.size wr nv (.slice (some ⟨ib, 0, none⟩) 1 1) ext [(la : Int) - (F : Int)]) ∧ Hid (Blk wr (ib + 1) 26 #[nv, .slice (some ⟨ib, 0, none⟩) 1 1]) ∧ Hid (Blk wr w.heap.size 26 #[.slice A n c, .slice (some ⟨b2, o2, none⟩) m d]) ∧ Hid (Blk wr (w.heap.size + 1) 26 #[.slice none 0 0, .slice none 0 0]) ∧ Hid (Below w.heap.size w wr)) (fun i _ => ((la : Int) + 1 - intOf i).toNat)
  case atStart => exact ⟨0, _, [], Nat.zero_le _, by go_num, rfl, Lib.hid rfl, HR0, HT0, HB0, HZ0, HL0⟩
  case round =>
    clear HR0 HT0 HB0 HZ0 HL0
    obtain ⟨wo, rfl⟩ : ∃ wo : World, wo = wr := ⟨_, rfl⟩
    obtain ⟨k, nv, ext, hk, rfl, hel, HEX, HRW, HTB, HB, HZ, HL⟩ := hrel
    have t0 := HB.out.cell 0
    have t1 := HB.out.cell 1
    obtain ⟨An, cn, rfl⟩ := own_form HRW.out.own
    rw [hel] at HTB
    have HEL := Lib.hid hel
    have u0 := HTB.out.cell 0
    have u1 := HTB.out.cell 1
    have uf := HTB.out.frozen 0
    by_cases hks : k < s
    · have i3 : decide ((F : Int) + (k : Int) ≤ (la : Int)) = true := decide_eq_true (by omega)
      obtain ⟨b, o, rfl, hNA⟩ := HT.out.nodes (by rw [← HN.out]; omega)
      obtain ⟨x, hx⟩ : ∃ x, xs[F + k]? = some x := xs_at (by rw [← HN.out]; omega)
      have c0 := (HL.out.cell (p := ⟨b, o + (F + k) * 5, none⟩) hNA.lt).trans (hNA.c0 _ x hx)
      have c1 := (HL.out.cell (p := ⟨b, o + (F + k) * 5 + 1, none⟩) hNA.lt).trans (hNA.c1 _ x hx)
      have c2 := (HL.out.cell (p := ⟨b, o + (F + k) * 5 + 2, none⟩) hNA.lt).trans (hNA.c2 _ x hx)
      have c3 := (HL.out.cell (p := ⟨b, o + (F + k) * 5 + 3, none⟩) hNA.lt).trans (hNA.c3 _ x hx)
      have c4 := (HL.out.cell (p := ⟨b, o + (F + k) * 5 + 4, none⟩) hNA.lt).trans (hNA.c4 _ x hx)
      obtain ⟨Ka, ca, hxe, hxl, hxk⟩ := hNA.kid hx
      rw [hxe] at c3
      have HXK := Lib.hid (hxk.below HL.out)
      have HXR := Lib.hid (HWF.out _ x.1 (nds_get hx))
      have HXG := Lib.hid (nds_get hx)
      clear hNA hx hxe hxk hel
      obtain ⟨⟨kd, tx, nn, ks, at_⟩, xv⟩ := x
      simp only at c0 c1 c2 c3 c4 hxl HXK HXR HXG
      obtain ⟨nk, hnk⟩ : ∃ nk, nk = ks.length := ⟨_, rfl⟩
      rw [← hnk] at c3 hxl
      have HNK := Lib.hid hnk; clear hnk
      obtain ⟨p, hp⟩ : ∃ p, p = F + k := ⟨_, rfl⟩
      rw [← hp] at c0 c1 c2 c3 c4 HXR HXG
      have hpi : (F : Int) + (k : Int) = (p : Int) := by omega
      rw [hpi] at i3 ⊢
      have i3' : decide (p ≤ la) = true := decide_eq_true (by omega)
      have z0 : (0 : Int) ≤ (p : Int) := by omega
      have z1 : (p : Int) < (n : Int) := by omega
      have wF : IntKind.i64.wrap (-(F : Int)) = -(F : Int) := IntWalk.i64_in _ (by omega)
      have hpla : p ≤ la := by omega
      have HPP := Lib.hid hp
      clear hp hpi
      have HXD := Lib.hid (show IntsIn wo.drew Ka ks from HXK.out.below (Below.drew (Below.refl _ _)))
      have hlo := HL.out.size
      have htl := HTB.out.lt
      have hkn : k ≤ 10000 := by omega
      have HKM := Lib.hid (show (intCells (ks.map (· + (-(F : Int))))).length = nk by rw [intCells_len, List.length_map, HNK.out])
      go_wp2_with fail
      go_region_law ((first
        | (guard_target =~ ((if Region.wanted _ _ = true then _ else _ : Prop)); refine step_append_lies _ (by rfl) _ _ _ (by rfl) w.heap.size 50 i0 _ 5 64 Tryz.underlying23 hi0 hz0 hz1 hz2 rfl (by omega) _ k (ndRow ext) (by rfl) (HOWN.out.alloc _) ⟨w5.heap.size, 0, none⟩ 1 1 (ndCells (⟨kd, tx, nn, ks.map (· + (-(F : Int))), at_⟩, .slice Ak nk ck)) (by rfl) (by rfl) (cells_new _ _ _) (by intro u hu; simp [ndCells] at hu; rcases hu with rfl | rfl | rfl | rfl | rfl <;> rfl) (by omega) (by simp only [maxLen]; omega) (by omega) (by simp; omega) (w5.heap.size + 1) (by simp) ?_; intro gg cap w6 hown6 hg6 hat6 hgl6; have kk := (HT5.out.alloc (.cells #[.int .u8 kd, .string (ofL tx), .int .i64 nn, .slice Ak nk ck, .int .i64 at_] 50)).grown hg6 (fun e => own_blk_ne HOWN.out HT5.out (by decide) e.symm); have c3' := kk.cell 0; have f3' := kk.frozen 0; clear kk)
        | (go_simp; go_at_call 60; go_loud (refine (moved_any kd tx nn at_ (-(F : Int)) Ka ca nk ks _ HNK.out HXD.out hxl (fun q hq => by have h9 := HXR.out q hq; omega)).mono ?_; rintro e w5 ⟨hb5, kv, rfl, hk5⟩; obtain ⟨Ak, ck, rfl⟩ := own_form hk5; have HBW := Lib.hid ((Below.drew (Below.refl wo.heap.size wo)).trans (hb5.mono (Nat.le_refl _))); have HR5 := Lib.hid (HRW.out.below HBW.out); have HT5 := Lib.hid (HTB.out.below HBW.out HTB.out.lt); have HK5 := Lib.hid (own_up hk5 (show w.heap.size ≤ _ by first | (simp; done) | (simp; omega))); have HFA := Lib.hid (far_new hk5 (show wo.heap.size ≤ _ by first | (simp; done) | (simp; omega)) HRW.out.row); have HOWN := Lib.hid (show w5.ownsRow w.heap.size 50 5 (.slice An k cn) k (ndRow ext) from by have h9 := HR5.out.own; rw [HEL.out] at h9; exact h9); have u5 := HT5.out.cell 0; have tl5 := HT5.out.lt; have f5 := HT5.out.frozen 0; have hs5 := HBW.out.size; clear hb5 hk5))))
      all_goals
        have HRA := HR5.out.below (balloc (Below.refl w5.heap.size w5) (Nat.le_refl _) (o := (.cells #[.int .u8 kd, .string (ofL tx), .int .i64 nn, .slice Ak nk ck, .int .i64 at_] 50)))
        have HTA := HT5.out.alloc (.cells #[.int .u8 kd, .string (ofL tx), .int .i64 nn, .slice Ak nk ck, .int .i64 at_] 50)
        obtain ⟨HRX, HTX⟩ := RowsIn.add (x := (⟨kd, tx, nn, ks.map (· + (-(F : Int))), at_⟩, .slice Ak nk ck)) (nv' := .slice (some ⟨gg, 0, none⟩) (k + 1) cap) HRA (by rw [HEL.out]; exact HTA) (by rw [HEL.out]; exact hg6) (by rw [HEL.out]; exact hown6) (by show World.ownsRow _ _ _ 1 (.slice Ak nk ck) (ks.map (· + (-(F : Int)))).length (intCells (ks.map (· + (-(F : Int))))); rw [List.length_map, ← HNK.out]; exact HK5.out.alloc _) HFA.out
        have HB5 := HB.out.below HBW.out HB.out.lt
        have HZ5 := HZ.out.below HBW.out HZ.out.lt
        have HBX := Lib.hid (((HB5.alloc (.cells #[.int .u8 kd, .string (ofL tx), .int .i64 nn, .slice Ak nk ck, .int .i64 at_] 50)).grown hg6 (fun e => own_blk_ne HOWN.out HB5 (by decide) e.symm)).far (p := ⟨ib + 1, 0, none⟩) (by show w.heap.size ≠ ib + 1; omega) (.slice (some ⟨gg, 0, none⟩) (k + 1) cap))
        have HZX := Lib.hid (((HZ5.alloc (.cells #[.int .u8 kd, .string (ofL tx), .int .i64 nn, .slice Ak nk ck, .int .i64 at_] 50)).grown hg6 (fun e => own_blk_ne HOWN.out HZ5 (by decide) e.symm)).far (p := ⟨ib + 1, 0, none⟩) (by show w.heap.size + 1 ≠ ib + 1; omega) (.slice (some ⟨gg, 0, none⟩) (k + 1) cap))
        have hl5 := (HL.out.trans (HBW.out.mono hlo)).size
        have HLX := Lib.hid (bset (b := ib + 1) (i := 0) (u := .slice (some ⟨gg, 0, none⟩) (k + 1) cap) ((balloc (HL.out.trans (HBW.out.mono hlo)) hl5 (o := (.cells #[.int .u8 kd, .string (ofL tx), .int .i64 nn, .slice Ak nk ck, .int .i64 at_] 50))).grown hg6 (by simp; omega) (fun q hq => by have := (HOWN.out.lt q hq).1; omega)) (by omega))
        have HEXT := Lib.hid (show nds (ext ++ [(⟨kd, tx, nn, ks.map (· + (-(F : Int))), at_⟩, .slice Ak nk ck)]) = (((nds xs).drop F).take (k + 1)).map (moveN (-(F : Int))) by
          rw [nds_append, HEX.out, List.take_add_one, List.getElem?_drop, ← HPP.out, HXG.out, List.map_append]; rfl)
        have HRX2 := Lib.hid HRX
        have HTX2 := Lib.hid HTX
        clear HRX HTX HRA HTA HB5 HZ5 hg6 hown6 hat6 c3' f3' u5 f5
        go_wp2_with fail
        exact ⟨⟨k + 1, _, ext ++ [(⟨kd, tx, nn, ks.map (· + (-(F : Int))), at_⟩, .slice Ak nk ck)], by omega, by first | (go_num; done) | (have h9 := HPP.out; rw [show (F : Int) + ((k + 1 : Nat) : Int) = (p : Int) + 1 by omega]), by rw [List.length_append, HEL.out]; rfl, HEXT, HRX2, HTX2, HBX, HZX, HLX⟩, by simp [intOf]; omega⟩
    · have i3 : decide ((F : Int) + (k : Int) ≤ (la : Int)) = false := decide_eq_false (by omega)
      obtain rfl : k = s := by omega
      rw [hel] at HRW
      have v0 := HZ.out.cell 0
      have v1 := HZ.out.cell 1
      have g0 := HZ.out.frozen 0
      have g1 := HZ.out.frozen 1
      clear hel
      go_wp2_with fail
      have HZ9 := (HZ.out.set_ 0 (.slice An k cn)).set_ 1 (.slice (some ⟨ib, 0, none⟩) 1 1)
      have r0 := HZ9.cell 0
      have r1 := HZ9.cell 1
      refine bodyPost_ret (v := .tuple #[.agg #[.slice An k cn, .slice (some ⟨ib, 0, none⟩) 1 1], .int .i64 0]) (by simp [results, Tryz.f25, go_sem, r0, r1]) rfl ?_
      exact ⟨bset (bset HL.out (by omega)) (by omega), .inr ⟨HA.out, q, la, F, k, sz, rfl, HCQ.out, hlan, HOK.out, HS.out, hF, _, _, ext, rfl, (HRW.out.far_blk HZ.out).far_blk (HZ.out.set_ 0 _), HEX.out⟩⟩
end Go.Proofs.YthepmkjggfijoaaGreatDoor
