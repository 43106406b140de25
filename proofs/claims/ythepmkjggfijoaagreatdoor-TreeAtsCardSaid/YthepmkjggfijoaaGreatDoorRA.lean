/-
  THE WALKS of At of chapter 3: the program's and the reference's.
-/
import Derived.Test.YthepmkjggfijoaaGreatDoorB31
import Derived.Test.YthepmkjggfijoaaGreatDoorD03
namespace Go.Proofs.YthepmkjggfijoaaGreatDoor
open Go.RowKit Mist
attribute [local go_sem] ofL_extract ofL_size ofL_get ofL_bytes ofL_append
def atN (T : Tr) (a : Int) : Int := firstN (fun x => x.at_ == a) T.nodes
/-- What At answers: the node and the error. -/
def atE (T : Tr) (a : Int) : Int × Int := if checkW T ≠ 0 then (0, checkW T) else if atN T a < 0 then (0, 7) else (atN T a, 0)
section
variable (xs : List NV) (its : List Int) (A : Option Addr) (n c : Nat) (w0 : World) (a : Int) (B : Option Addr) (hT : TAt w0 A B xs its) (hn : n = xs.length)
include hT hn
set_option maxRecDepth 100000 in
set_option maxHeartbeats 2000000 in
theorem indexAt_any (hn6 : n ≤ 100000) (ab : Nat) (w : World) (hb : Below w0.heap.size w0 w) (ht : Blk w ab 3 #[.int .i64 a]) :
    Calls Tryz.prog 75 #[.slice A n c, .func (.func 76) #[] #[.pointer (some ⟨ab, 0, none⟩)]] w fun e w' => e = .returned (.int .i64 (atN ⟨nds xs, its⟩ a)) ∧ Below w.heap.size w w' := by
  obtain ⟨T, hTT⟩ : ∃ T : Tr, T = ⟨nds xs, its⟩ := ⟨_, rfl⟩
  have HTL := Lib.hid (show T.nodes = nds xs by rw [hTT])
  rw [← hTT]
  clear hTT
  have HT := Lib.hid hT; clear hT
  have HN := Lib.hid hn; clear hn
  have HB := Lib.hid hb; clear hb
  have HTB := Lib.hid ht; clear ht
  go_enter Tryz.func75, Tryz.ntmps75
  go_wp2_with fail
  go_loopw [8] (fun i wr => ∃ k : Nat, k ≤ n ∧ i = .int .i64 k ∧ Hid (((nds xs).take k).all (fun y => !(y.at_ == a)) = true) ∧ Hid (Below w.heap.size w wr)) (fun i _ => n - (intOf i).toNat)
  case atStart => exact ⟨0, Nat.zero_le _, rfl, Lib.hid rfl, Lib.hid (Below.refl _ _)⟩
  case round =>
    obtain ⟨wo, rfl⟩ : ∃ wo : World, wo = wr := ⟨_, rfl⟩
    obtain ⟨k, hk, rfl, HA, HL⟩ := hrel
    by_cases hkn : k < n
    · obtain ⟨b, o, rfl, hN⟩ := HT.out.nodes (by rw [← HN.out]; omega)
      obtain ⟨x, hx⟩ : ∃ x, xs[k]? = some x := xs_at (by rw [← HN.out]; exact hkn)
      have hb0 := HB.out.trans (HL.out.mono HB.out.size)
      have c0 := (hb0.cell (p := ⟨b, o + k * 5, none⟩) hN.lt).trans (hN.c0 k x hx)
      have c1 := (hb0.cell (p := ⟨b, o + k * 5 + 1, none⟩) hN.lt).trans (hN.c1 k x hx)
      have c2 := (hb0.cell (p := ⟨b, o + k * 5 + 2, none⟩) hN.lt).trans (hN.c2 k x hx)
      have c3 := (hb0.cell (p := ⟨b, o + k * 5 + 3, none⟩) hN.lt).trans (hN.c3 k x hx)
      have c4 := (hb0.cell (p := ⟨b, o + k * 5 + 4, none⟩) hN.lt).trans (hN.c4 k x hx)
      obtain ⟨Ak, ck, hxe, hxl, hxk⟩ := hN.kid hx
      rw [hxe] at c3
      have ta := (HTB.out.below HL.out HTB.out.lt).cell 0
      have tal := (HTB.out.below HL.out HTB.out.lt).lt
      have HX := Lib.hid (nds_get hx)
      clear hN hx hxe hb0 hxk
      have i1 : (0 : Int) ≤ (k : Int) := by omega
      have i2 : (k : Int) < (n : Int) := by omega
      have i3 : decide (k < n) = true := decide_eq_true hkn
      have HS := Lib.hid (show (nds xs).take (k + 1) = (nds xs).take k ++ [x.1] by rw [List.take_add_one, HX.out]; rfl)
      have HCL := Lib.hid (show Calls Tryz.prog 76 #[.agg #[.int .u8 x.1.kind, .string (ofL x.1.text), .int .i64 x.1.n, .slice Ak x.1.kids.length ck, .int .i64 x.1.at_], .pointer (some ⟨ab, 0, none⟩)] wo fun e w' => e = .returned (.bool (x.1.at_ == a)) ∧ Below wo.heap.size wo w' from by
        clear HS HA HT HB HTB HTL
        go_enter Tryz.func76, Tryz.ntmps76
        go_wp2_with fail
        go_ret
        exact ⟨rfl, balloc (Below.refl _ _) (Nat.le_refl _)⟩)
      cases hs : x.1.at_ == a
      · have HSX := Lib.hid hs; clear hs
        go_wp2_with fail
        refine HCL.out.mono ?_
        rintro e w2 ⟨rfl, hb2⟩
        rw [HSX.out]
        have HL2 := Lib.hid (HL.out.trans (hb2.mono HL.out.size))
        clear hb2
        go_wp2_with fail
        exact ⟨⟨k + 1, by omega, by go_num, Lib.hid (by rw [HS.out, List.all_append, HA.out]; simp [HSX.out]), HL2⟩, by simp [intOf]; omega⟩
      · have HSX := Lib.hid hs; clear hs
        have HR := Lib.hid (show atN T a = (k : Int) by
          unfold atN
          rw [HTL.out]
          exact firstN_hit HA.out HX.out HSX.out)
        go_wp2_with fail
        refine HCL.out.mono ?_
        rintro e w2 ⟨rfl, hb2⟩
        rw [HSX.out]
        go_wp2_with fail
        go_ret
        exact ⟨by rw [HR.out]; rfl, HL.out.trans (hb2.mono HL.out.size)⟩
    · have HR := Lib.hid (show atN T a = -1 by
        have h9 := HA.out
        rw [List.take_of_length_le (by rw [nds_len, ← HN.out]; omega)] at h9
        unfold atN
        rw [HTL.out]
        exact firstN_miss h9)
      have i3 : decide (k < n) = false := decide_eq_false hkn
      go_wp2_with fail
      go_ret
      exact ⟨by rw [HR.out]; rfl, HL.out⟩
end
set_option maxRecDepth 100000 in
set_option maxHeartbeats 2000000 in
theorem at_any (A B : Option Addr) (c d : Nat) (xs : List NV) (its : List Int) (a : Int) (w : World) (hT : TAt w A B xs its) (hR : TrR (nds xs)) (hE : Env w) (hn : xs.length ≤ 100000) :
    Calls Tryz.prog 31 #[.agg #[.slice A xs.length c, .slice B its.length d], .int .i64 a] w fun e w' => e = .returned (.tuple #[.int .i64 (atE ⟨nds xs, its⟩ a).1, .int .i64 (atE ⟨nds xs, its⟩ a).2]) ∧ Below w.heap.size w w' := by
  have HCK := Lib.hid fun W (hb : Below w.heap.size w W) => treeCheck_any A B c d xs its W (hT.below hb) hR (hE.below hb)
  have HIX := Lib.hid fun W (hb : Below w.heap.size w W) ab ht => indexAt_any xs its A xs.length c w a B hT rfl hn ab W hb ht
  obtain ⟨T, hTT⟩ : ∃ T : Tr, T = ⟨nds xs, its⟩ := ⟨_, rfl⟩
  rw [← hTT] at HCK HIX ⊢
  clear hTT hT hR hE hn
  have HB0 := Lib.hid ((Blk.new w 26 #[.slice A xs.length c, .slice B its.length d]).alloc (.cells #[.int .i64 a] 3))
  have HA0 := Lib.hid (blk_topW (W := w.alloc (.cells #[.slice A xs.length c, .slice B its.length d] 26)) (T := 3) (cs := #[.int .i64 a]) (k := w.heap.size + 1) (by simp))
  have HL0 := Lib.hid (balloc (balloc (Below.refl w.heap.size w) (Nat.le_refl _) (o := .cells #[.slice A xs.length c, .slice B its.length d] 26)) (by simp) (o := .cells #[.int .i64 a] 3))
  go_enter Tryz.func31, Tryz.ntmps31
  go_wp2_with fail
  refine (HCK.out _ HL0.out).mono ?_
  rintro e w1 ⟨rfl, hb1⟩
  have HB := Lib.hid (HB0.out.below hb1 HB0.out.lt)
  have HA := Lib.hid (HA0.out.below hb1 HA0.out.lt)
  have HL := Lib.hid (HL0.out.trans (hb1.mono HL0.out.size))
  clear hb1 HB0 HA0 HL0
  have t0 := HB.out.cell 0
  have t1 := HB.out.cell 1
  by_cases hE0 : checkW T = 0
  case neg =>
    have HX := Lib.hid (show atE T a = (0, checkW T) by unfold atE; rw [if_pos hE0])
    obtain ⟨E, hE⟩ : ∃ E, E = checkW T := ⟨_, rfl⟩
    rw [← hE] at hE0 HX ⊢
    have e1 : (E != 0) = true := by simpa using hE0
    clear hE hE0
    go_wp2_with fail
    go_ret2
    exact ⟨by rw [HX.out]; rfl, HL.out⟩
  have HE0 := Lib.hid hE0
  rw [hE0]
  clear hE0
  go_wp2_with fail
  refine (HIX.out _ HL.out _ HA.out).mono ?_
  rintro e w2 ⟨rfl, hb2⟩
  have HL2 := Lib.hid (HL.out.trans (hb2.mono HL.out.size))
  clear hb2
  by_cases hneg : atN T a < 0
  · have d1 : decide (atN T a < 0) = true := decide_eq_true hneg
    have HX := Lib.hid (show atE T a = (0, 7) by unfold atE; rw [if_neg (by rw [HE0.out]; simp), if_pos hneg])
    clear hneg
    go_wp2_with fail
    go_ret2
    exact ⟨by rw [HX.out]; rfl, HL2.out⟩
  · have d1 : decide (atN T a < 0) = false := decide_eq_false hneg
    have HX := Lib.hid (show atE T a = (atN T a, 0) by unfold atE; rw [if_neg (by rw [HE0.out]; simp), if_neg hneg])
    clear hneg
    go_wp2_with fail
    go_ret2
    exact ⟨by rw [HX.out]; rfl, HL2.out⟩
set_option maxRecDepth 100000 in
set_option maxHeartbeats 2000000 in
theorem rat_any (A B : Option Addr) (c d : Nat) (xs : List NV) (its : List Int) (a : Int) (w : World) (hT : TAt w A B xs its) (hn : xs.length ≤ 10000) (hm : its.length ≤ 10000) (hl : ∀ x ∈ xs, x.1.text.length ≤ 100000000) (hnum : ∀ n ∈ nds xs, lowN ≤ n.n ∧ n.n ≤ highN) :
    Calls Tryz.prog 32 #[.agg #[.slice A xs.length c, .slice B its.length d], .int .i64 a] w fun e w' => e = .returned (.tuple #[.int .i64 (atE ⟨nds xs, its⟩ a).1, .int .i64 (atE ⟨nds xs, its⟩ a).2]) ∧ Below w.heap.size w w' := by
  have HCK := Lib.hid fun W (hb : Below w.heap.size w W) => checkR_any A B c d xs its W (hT.below hb) hn hm hl
  have HEQ := Lib.hid (checkW_eq ⟨nds xs, its⟩ hnum)
  obtain ⟨T, hTT⟩ : ∃ T : Tr, T = ⟨nds xs, its⟩ := ⟨_, rfl⟩
  have HTL := Lib.hid (show T.nodes = nds xs by rw [hTT])
  rw [← hTT] at HCK HEQ ⊢
  clear hTT hl hnum
  obtain ⟨n, hnn⟩ : ∃ n, n = xs.length := ⟨_, rfl⟩
  rw [← hnn] at HCK hn ⊢
  have HN := Lib.hid hnn; clear hnn
  have HT := Lib.hid hT; clear hT
  have HB0 := Lib.hid (Blk.new w 26 #[.slice A n c, .slice B its.length d])
  have HL0 := Lib.hid (balloc (Below.refl w.heap.size w) (Nat.le_refl _) (o := .cells #[.slice A n c, .slice B its.length d] 26))
  go_enter Tryz.func32, Tryz.ntmps32
  go_wp2_with fail
  refine (HCK.out _ HL0.out).mono ?_
  rintro e w1 ⟨rfl, hb1⟩
  rw [← HEQ.out]
  have HB := Lib.hid (HB0.out.below hb1 HB0.out.lt)
  have HL := Lib.hid (HL0.out.trans (hb1.mono HL0.out.size))
  clear hb1 HB0 HL0
  have t0 := HB.out.cell 0
  have t1 := HB.out.cell 1
  by_cases hE0 : checkW T = 0
  case neg =>
    have HX := Lib.hid (show atE T a = (0, checkW T) by unfold atE; rw [if_pos hE0])
    obtain ⟨E, hE⟩ : ∃ E, E = checkW T := ⟨_, rfl⟩
    rw [← hE] at hE0 HX ⊢
    have e1 : (E != 0) = true := by simpa using hE0
    clear hE hE0
    go_wp2_with fail
    go_ret2
    exact ⟨by rw [HX.out]; rfl, HL.out⟩
  have HE0 := Lib.hid hE0
  rw [hE0]
  clear hE0
  go_wp2_with fail
  go_loopw [7] (fun i wr => ∃ k : Nat, k ≤ n ∧ i = .int .i64 k ∧ Hid (((nds xs).take k).all (fun y => !(y.at_ == a)) = true) ∧ Hid (Blk wr w.heap.size 26 #[.slice A n c, .slice B its.length d]) ∧ Hid (Below w.heap.size w wr)) (fun i _ => n - (intOf i).toNat)
  case atStart => exact ⟨0, Nat.zero_le _, rfl, Lib.hid rfl, HB, HL⟩
  case round =>
    clear HB HL t0 t1
    obtain ⟨k, hk, rfl, HA, HB, HL⟩ := hrel
    have t0 := HB.out.cell 0
    have t1 := HB.out.cell 1
    by_cases hkn : k < n
    · have i3 : decide (k < n) = true := decide_eq_true hkn
      obtain ⟨b, o, rfl, hN⟩ := HT.out.nodes (by rw [← HN.out]; omega)
      obtain ⟨x, hx⟩ : ∃ x, xs[k]? = some x := xs_at (by rw [← HN.out]; exact hkn)
      have c4 := (HL.out.cell (p := ⟨b, o + k * 5 + 4, none⟩) hN.lt).trans (hN.c4 k x hx)
      have HX := Lib.hid (nds_get hx)
      clear hN hx
      have i1 : (0 : Int) ≤ (k : Int) := by omega
      have i2 : (k : Int) < (n : Int) := by omega
      have HS := Lib.hid (show (nds xs).take (k + 1) = (nds xs).take k ++ [x.1] by rw [List.take_add_one, HX.out]; rfl)
      cases hs : x.1.at_ == a
      · have HSX := Lib.hid hs
        go_wp2_with fail
        exact ⟨⟨k + 1, by omega, by go_num, Lib.hid (by rw [HS.out, List.all_append, HA.out]; simp [HSX.out]), HB, HL⟩, by simp [intOf]; omega⟩
      · have HSX := Lib.hid hs
        have HR := Lib.hid (show atN T a = (k : Int) by
          unfold atN
          rw [HTL.out]
          exact firstN_hit HA.out HX.out HSX.out)
        have HY := Lib.hid (show atE T a = ((k : Int), 0) by unfold atE; rw [if_neg (by rw [HE0.out]; simp), if_neg (by rw [HR.out]; omega), HR.out])
        go_wp2_with fail
        go_ret2
        exact ⟨by rw [HY.out]; rfl, HL.out⟩
    · have HR := Lib.hid (show atN T a = -1 by
        have h9 := HA.out
        rw [List.take_of_length_le (by rw [nds_len, ← HN.out]; omega)] at h9
        unfold atN
        rw [HTL.out]
        exact firstN_miss h9)
      have HY := Lib.hid (show atE T a = (0, 7) by unfold atE; rw [if_neg (by rw [HE0.out]; simp), if_pos (by rw [HR.out]; omega)])
      have i3 : decide (k < n) = false := decide_eq_false hkn
      go_wp2_with fail
      go_ret2
      exact ⟨by rw [HY.out]; rfl, HL.out⟩
end Go.Proofs.YthepmkjggfijoaaGreatDoor
