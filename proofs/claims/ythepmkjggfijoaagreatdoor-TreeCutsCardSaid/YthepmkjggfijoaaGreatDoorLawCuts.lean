/-
  THE WALK of the law TreeCuts: the program's Cut and the reference's are the same function; the tree is not changed.
-/
import Derived.Test.YthepmkjggfijoaaGreatDoorD04
import Derived.Test.YthepmkjggfijoaaGreatDoorRCU
namespace Go.Proofs.YthepmkjggfijoaaGreatDoor
open Go.RowKit Mist
attribute [local go_sem] ofL_extract ofL_size ofL_get ofL_bytes ofL_append
theorem roots_nil : ∀ (l : List Nd) (n : Nat), (∀ x ∈ l, isItem x.kind = false) → rootsOf n l = []
  | [], _, _ => rfl
  | x :: r, n, h => by
    unfold rootsOf
    rw [if_neg (by rw [h x (List.mem_cons_self ..)]; simp)]
    exact roots_nil r (n + 1) (fun y hy => h y (List.mem_cons_of_mem _ hy))
theorem right_kids {T : Tr} {j : Nat} {x : Nd} (hr : rightK T j = true) (hx : T.nodes[j]? = some x) {i : Nat} (hi : (i : Int) ∈ x.kids) : isItem (nd T i).kind = false := by
  rw [rightK_parts, nd_of hx] at hr
  simp only [Bool.and_eq_true, List.all_eq_true, List.mem_range] at hr
  obtain ⟨p, hp, he⟩ := List.mem_iff_getElem.1 hi
  have h := hr.2 p hp
  unfold kidR at h
  rw [List.getD_eq_getElem?_getD, List.getElem?_eq_getElem hp, he] at h
  simp only [Option.getD_some, Int.toNat_natCast, Bool.and_eq_true] at h
  exact kid_item h.1
theorem roots_cut {T : Tr} {sz : List Int} (hS : SzOk T.nodes sz T.nodes.length) (hR : Rooted T) (hr : ∀ i, i < T.nodes.length → rightK T i = true) {q la F s : Nat} (hq : T.items[q]? = some (la : Int)) (hla : la < T.nodes.length) (hs : sz.getD la 0 = (s : Int)) (hF : la + 1 = F + s) : rootsOf 0 ((T.nodes.drop F).take s) = [(la : Int) - (F : Int)] := by
  obtain ⟨n, m, hn, hm, he, hfo⟩ := hS.2 la hla
  have hmF : m = F := by omega
  subst hmF
  have hs1 : s = (la - m) + 1 := by omega
  rw [hs1, List.take_add_one, List.getElem?_drop, show m + (la - m) = la by omega, hn, Option.toList_some, rootsOf_snoc, roots_nil]
  · have hi : isItem n.kind = true := by
      have h9 := hR.item la (List.mem_of_getElem? hq)
      rwa [Int.toNat_natCast, nd_of hn] at h9
    rw [if_pos hi, List.length_take, List.length_drop]
    have e1 : 0 + min (la - m) (T.nodes.length - m) = la - m := by omega
    rw [e1]
    simp; omega
  · intro x hx
    obtain ⟨k, hk, hkx⟩ := List.mem_iff_getElem.1 hx
    rw [List.length_take, List.length_drop] at hk
    have hkx2 : T.nodes[m + k]? = some x := by
      rw [← hkx, List.getElem_take, List.getElem_drop]; exact List.getElem?_eq_getElem _
    have hkind : x.kind = (nd T (m + k)).kind := by rw [nd_of hkx2]
    rw [hkind]
    rcases Fo.parent hfo (m + k) (by omega) (by omega) with h | ⟨j, y, _, hj, hy, hjk⟩
    · exact right_kids (hr la hla) hn h
    · exact right_kids (hr j (by omega)) hy hjk
theorem szOk_uniq {ns : List Nd} {a b : List Int} {k : Nat} (h1 : SzOk ns a k) (h2 : SzOk ns b k) {i : Nat} (hi : i < k) : a.getD i 0 = b.getD i 0 := by
  obtain ⟨n, m, e1, _, e2, f1⟩ := h1.2 i hi
  obtain ⟨n', m', e3, _, e4, f2⟩ := h2.2 i hi
  obtain rfl : n = n' := Option.some.inj (e1.symm.trans e3)
  have := Fo.uniq f1 m' f2
  rw [e2, e4, this]
theorem nds_part (xs : List NV) (F s : Nat) : nds ((xs.drop F).take s) = ((nds xs).drop F).take s := by unfold nds; rw [List.map_take, List.map_drop]
theorem tAt_zero (w : World) : TAt w none none [] [] := ⟨fun h => absurd h (by simp), ⟨fun h => absurd h (by simp)⟩⟩
theorem JS.tAt {g : Nat} {w : World} {tb : Nat} {A B : Option Addr} {c d : Nat} {xs : List NV} {its : List Int} (h : JS g w tb (.slice A xs.length c) (.slice B its.length d) xs its) (hk : ∀ x ∈ xs, x.1.kids.length ≤ 1000000) : TAt w A B xs its := by
  refine ⟨fun h0 => ?_, own_ints h.row rfl⟩
  obtain ⟨gb, e, hn⟩ := own_nodes h.own h0 (fun x hx => ⟨_, h.kids x hx⟩) hk
  exact ⟨gb, 0, e, hn⟩
theorem moved_kids {xs ys : List NV} {F s : Nat} {by_ : Int} (h : nds ys = (((nds xs).drop F).take s).map (moveN by_)) (hk : ∀ x ∈ nds xs, x.kids.length ≤ 1000000) : ∀ y ∈ ys, y.1.kids.length ≤ 1000000 := by
  intro y hy
  have h1 : y.1 ∈ nds ys := List.mem_map.2 ⟨y, hy, rfl⟩
  rw [h] at h1
  obtain ⟨z, hz, e⟩ := List.mem_map.1 h1
  rw [← e]
  show (z.kids.map (· + by_)).length ≤ 1000000
  rw [List.length_map]
  exact hk z (List.mem_of_mem_drop (List.mem_of_mem_take hz))
theorem checkW_right {T : Tr} (hn : ∀ n ∈ T.nodes, lowN ≤ n.n ∧ n.n ≤ highN) (h : checkW T = 0) : ∀ i, i < T.nodes.length → rightK T i = true := by
  rw [checkW_eq T hn] at h
  unfold rcheckW at h
  split at h
  · cases h
  split at h
  · cases h
  · rename_i hf
    exact (formT_right (by simpa using hf)).1
set_option maxRecDepth 100000 in
set_option maxHeartbeats 2000000 in
theorem cuts_law (A B : Option Addr) (c g : Nat) (xs : List NV) (its : List Int) (item : Int) (w : World) (hE : Env w) (hw : TreeArg w A B c xs its) :
    Calls Tryz.prog 5 #[.agg #[.slice A xs.length c, .slice B its.length g], .int .i64 item] w fun e w' => e = .returned (.bool true) ∧ Below w.heap.size w w' := by
  have HE := Lib.hid hE; clear hE
  have HBG := Lib.hid (hw.big g)
  have HSM := Lib.hid hw.small; clear hw
  have HL0 := Lib.hid (balloc (Below.refl w.heap.size w) (Nat.le_refl _) (o := .cells #[.slice A xs.length c, .slice B its.length g] 26))
  have HB0 := Lib.hid (Blk.new w 26 #[.slice A xs.length c, .slice B its.length g])
  go_enter Tryz.func5, Tryz.ntmps5
  go_wp2_with fail
  refine (HBG.out _ HL0.out).mono ?_
  rintro e w1 ⟨rfl, hb1⟩
  have HL1 := Lib.hid (HL0.out.trans (hb1.mono HL0.out.size))
  have HB1 := Lib.hid (HB0.out.below hb1 HB0.out.lt)
  clear hb1 HL0 HB0 HBG
  cases hbig : bigL ⟨nds xs, its⟩
  case true =>
    clear hbig
    go_wp2_with fail
    refine (known_any _ (HE.out.below HL1.out)).mono ?_
    rintro e w2 ⟨rfl, hb2⟩
    have HL2 := Lib.hid (HL1.out.trans (hb2.mono HL1.out.size)); clear hb2
    go_wp2_with fail
    go_ret
    exact ⟨by first | rfl | simp, HL2.out⟩
  obtain ⟨hT, hTR, hn, hm, htx, hkr, hkl⟩ := HSM.out hbig
  clear hbig HSM
  have HT := Lib.hid hT
  have HTR := Lib.hid hTR
  have HCP := Lib.hid fun W (hb : Below w.heap.size w W) => copy_any A B c g xs its W (hT.below hb) (by omega) (by omega) hkr
  have HRC := Lib.hid fun W (hb : Below w.heap.size w W) => rcut_any A B c g xs its item W (hT.below hb) (by omega) (by omega) htx (fun n hn => (hTR n hn).num)
  have HRK := Lib.hid fun h => checkW_right (T := ⟨nds xs, its⟩) (fun n hn => (hTR n hn).num) h
  have HKL := Lib.hid hkl
  have HNX := Lib.hid hn
  have HNI := Lib.hid hm
  clear hT hTR htx hkr hkl hn hm
  have t0 := HB1.out.cell 0
  have t1 := HB1.out.cell 1
  go_wp2_with fail
  refine (HCP.out _ HL1.out).mono ?_
  rintro e w2 ⟨hb2, nv, iv, ext, rfl, hri, hex⟩
  obtain ⟨An, cn, rfl⟩ := own_form hri.own
  obtain ⟨Av, cv, rfl⟩ := own_form hri.row
  have HX := Lib.hid (hri.tAt fun x hx => HKL.out x.1 (by rw [← hex]; exact List.mem_map.2 ⟨x, hx, rfl⟩))
  have HCN := Lib.hid (own_cap hri.own)
  have HL2 := Lib.hid (HL1.out.trans (hb2.mono HL1.out.size))
  have HB2 := Lib.hid ((HB1.out.below hb2 HB1.out.lt).alloc (.cells #[.slice An ext.length cn, .slice Av its.length cv] 26))
  have HC2 := Lib.hid (Blk.new w2 26 #[.slice An ext.length cn, .slice Av its.length cv])
  have HD2 := Lib.hid (balloc (Below.refl w2.heap.size w2) (Nat.le_refl _) (o := .cells #[.slice An ext.length cn, .slice Av its.length cv] 26))
  have HX2 := Lib.hid hex
  clear hri hex hb2 HCP HB1 HL1 t0 t1
  have HXL := Lib.hid (show ext.length ≤ 900 by have := HX2.out; rw [← nds_len, this, nds_len]; exact HNX.out)
  have t0 := HB2.out.cell 0
  have t1 := HB2.out.cell 1
  have x0 := HC2.out.cell 0
  have x1 := HC2.out.cell 1
  go_wp2_with fail
  refine (cut_any An Av cn cv ext its item _ (HX.out.below HD2.out) (by rw [HX2.out]; exact HTR.out) (HE.out.below (HL2.out.trans (HD2.out.mono HL2.out.size))) HCN.out).mono ?_
  rintro e w3 ⟨hb3, h3⟩
  have HD3 := Lib.hid (HD2.out.trans (hb3.mono HD2.out.size))
  have HB3 := Lib.hid (HB2.out.below hb3 HB2.out.lt)
  have HC3 := Lib.hid (HC2.out.below hb3 HC2.out.lt)
  have HL3 := Lib.hid (HL2.out.trans (HD3.out.mono HL2.out.size))
  clear hb3 HD2 HB2 HC2 t0 t1 x0 x1
  rw [HX2.out] at h3
  have t0 := HB3.out.cell 0
  have t1 := HB3.out.cell 1
  have x0 := HC3.out.cell 0
  have x1 := HC3.out.cell 1
  rcases h3 with ⟨hne, rfl⟩ | ⟨hz, q, la, out, rfl, hq, hla, hok, gg, tb, nv, iv, cx, rfl, hgg, hjs, hcx⟩
  · obtain ⟨E, hEE⟩ : ∃ E, E = askE ⟨nds xs, its⟩ its.length item := ⟨_, rfl⟩
    rw [← hEE] at hne HRC ⊢
    have HNE := Lib.hid hne; clear hne hEE
    have HB4 := Lib.hid (HB3.out.alloc (.cells #[.slice none 0 0, .slice none 0 0] 26))
    have HC4 := Lib.hid (HC3.out.alloc (.cells #[.slice none 0 0, .slice none 0 0] 26))
    have HP4 := Lib.hid (Blk.new w3 26 #[.slice none 0 0, .slice none 0 0])
    have HD4 := Lib.hid (balloc HD3.out HD3.out.size (o := .cells #[.slice none 0 0, .slice none 0 0] 26))
    have HL4 := Lib.hid (HL2.out.trans (HD4.out.mono HL2.out.size))
    clear t0 t1 x0 x1
    have t0 := HB4.out.cell 0
    have t1 := HB4.out.cell 1
    have x0 := HC4.out.cell 0
    have x1 := HC4.out.cell 1
    go_wp2_with fail
    refine (HRC.out _ HL4.out).mono ?_
    rintro e w5 ⟨hb5, h5⟩
    rcases h5 with ⟨_, rfl⟩ | ⟨hz5, _⟩
    case inr => exact absurd hz5 HNE.out
    have e1 : (E == E) = true := by simp
    have HB6 := Lib.hid ((HB4.out.below hb5 HB4.out.lt).alloc (.cells #[.slice none 0 0, .slice none 0 0] 26))
    have HC6 := Lib.hid ((HC4.out.below hb5 HC4.out.lt).alloc (.cells #[.slice none 0 0, .slice none 0 0] 26))
    have HP6 := Lib.hid ((HP4.out.below hb5 HP4.out.lt).alloc (.cells #[.slice none 0 0, .slice none 0 0] 26))
    have HQ6 := Lib.hid (Blk.new w5 26 #[.slice none 0 0, .slice none 0 0])
    have HD5 := Lib.hid (HD4.out.trans (hb5.mono HD4.out.size))
    have HD6 := Lib.hid (balloc HD5.out HD5.out.size (o := .cells #[.slice none 0 0, .slice none 0 0] 26))
    have HL6 := Lib.hid (HL2.out.trans (HD6.out.mono HL2.out.size))
    clear t0 t1 x0 x1
    have t0 := HB6.out.cell 0
    have t1 := HB6.out.cell 1
    have x0 := HC6.out.cell 0
    have x1 := HC6.out.cell 1
    have p0 := HP6.out.cell 0
    have p1 := HP6.out.cell 1
    have q0 := HQ6.out.cell 0
    have q1 := HQ6.out.cell 1
    go_wp2_with fail
    refine (same_any An Av A B cn cv c g ext xs its _ (HX.out.below HD6.out) (HT.out.below HL6.out) HX2.out (by have := HXL.out; omega) (by have := HNI.out; omega)).mono ?_
    rintro e w7 ⟨hb7, rfl⟩
    have HP7 := Lib.hid (HP6.out.below hb7 HP6.out.lt)
    have HQ7 := Lib.hid (HQ6.out.below hb7 HQ6.out.lt)
    have HD7 := Lib.hid (HD6.out.trans (hb7.mono HD6.out.size))
    have HL7 := Lib.hid (HL6.out.trans (hb7.mono HL6.out.size))
    clear hb7 HB6 HC6 HP6 HQ6 t0 t1 x0 x1 p0 p1 q0 q1
    have p0 := HP7.out.cell 0
    have p1 := HP7.out.cell 1
    have q0 := HQ7.out.cell 0
    have q1 := HQ7.out.cell 1
    go_wp2_with fail
    refine (same_any none none none none 0 0 0 0 [] [] [] _ (tAt_zero _) (tAt_zero _) rfl (by simp) (by simp)).mono ?_
    rintro e w8 ⟨hb8, rfl⟩
    have HL8 := Lib.hid (HL7.out.trans (hb8.mono HL7.out.size))
    clear hb8
    go_wp2_with fail
    refine (known_any _ (HE.out.below HL8.out)).mono ?_
    rintro e w9 ⟨rfl, hb9⟩
    have HL9 := Lib.hid (HL8.out.trans (hb9.mono HL8.out.size)); clear hb9
    go_wp2_with fail
    go_ret
    exact ⟨by first | rfl | simp, HL9.out⟩
  · have hln : ext.length = xs.length := by have := HX2.out; rw [← nds_len, this, nds_len]
    rw [hln] at hok hla
    obtain ⟨s, hs⟩ : ∃ s, s = (out.getD la 0).toNat := ⟨_, rfl⟩
    obtain ⟨F, hF⟩ : ∃ F, F = la + 1 - s := ⟨_, rfl⟩
    rw [← hs, ← hF] at hjs hcx
    have hok2 : SzOk (nds xs) out (nds xs).length := by rw [nds_len]; exact hok
    have hsp := szPos hok2 (i := la) (by rw [nds_len]; exact hla)
    have hso : out.getD la 0 = (s : Int) := by omega
    have hFs : la + 1 = F + s := by omega
    obtain ⟨_, hroot, _⟩ := checkW_zero (t := ⟨nds xs, its⟩) (by
      have h9 := hz; unfold askE at h9
      split at h9
      · rename_i h8; exact absurd h9 h8
      · rename_i h8; simpa using h8)
    have hcw : checkW ⟨nds xs, its⟩ = 0 := by
      have h9 := hz; unfold askE at h9
      split at h9
      · rename_i h8; exact absurd h9 h8
      · rename_i h8; simpa using h8
    have hroots := roots_cut (T := ⟨nds xs, its⟩) hok2 hroot (HRK.out hcw) hq (by show la < (nds xs).length; rw [nds_len]; exact hla) hso hFs
    have hroots2 : rootsOf 0 (nds ((ext.drop F).take s)) = [(la : Int) - (F : Int)] := by rw [nds_part, HX2.out]; exact hroots
    have hcx2 : nds cx = (((nds xs).drop F).take s).map (moveN (-(F : Int))) := by rw [hcx, nds_part, HX2.out]
    rw [hroots2] at hjs
    obtain ⟨Ap, cp, rfl⟩ := own_form hjs.own
    obtain ⟨Bp, dp, rfl⟩ := own_form hjs.row
    have HPX := Lib.hid (hjs.tAt (moved_kids hcx2 HKL.out))
    have HCX := Lib.hid hcx2
    have HQQ := Lib.hid hq
    have HSO := Lib.hid hso
    have HOK := Lib.hid hok
    have HHZ := Lib.hid hz
    have HLA := Lib.hid hla
    have HFS := Lib.hid hFs
    have HSL := Lib.hid hsp
    clear hjs hcx hcx2 hroots hroots2 hq hso hok hok2 hz hla hFs hsp hs hF hroot hcw hgg hln
    have HB4 := Lib.hid (HB3.out.alloc (.cells #[.slice Ap cx.length cp, .slice Bp 1 dp] 26))
    have HC4 := Lib.hid (HC3.out.alloc (.cells #[.slice Ap cx.length cp, .slice Bp 1 dp] 26))
    have HP4 := Lib.hid (Blk.new w3 26 #[.slice Ap cx.length cp, .slice Bp 1 dp])
    have HD4 := Lib.hid (balloc HD3.out HD3.out.size (o := .cells #[.slice Ap cx.length cp, .slice Bp 1 dp] 26))
    have HL4 := Lib.hid (HL2.out.trans (HD4.out.mono HL2.out.size))
    clear t0 t1 x0 x1
    have t0 := HB4.out.cell 0
    have t1 := HB4.out.cell 1
    have x0 := HC4.out.cell 0
    have x1 := HC4.out.cell 1
    go_wp2_with fail
    refine (HRC.out _ HL4.out).mono ?_
    rintro e w5 ⟨hb5, h5⟩
    rcases h5 with ⟨hne5, _⟩ | ⟨_, q', la', F', s', sz, hqq, hq', hla', hok', hs', hF', nv', iv', rx, rfl, hri, hrx⟩
    case inl => exact absurd HHZ.out hne5
    obtain rfl : q = q' := by omega
    obtain rfl : la = la' := by have h9 := Option.some.inj (HQQ.out.symm.trans hq'); omega
    have hss : s = s' := by
      have h9 := szOk_uniq HOK.out hok' HLA.out
      rw [HSO.out, hs'] at h9; omega
    subst hss
    obtain rfl : F = F' := by have := HFS.out; omega
    obtain ⟨Aq, cq, rfl⟩ := own_form hri.own
    obtain ⟨Bq, dq, rfl⟩ := own_form hri.row
    have HQX := Lib.hid (hri.tAt (moved_kids hrx HKL.out))
    have HW5 := Lib.hid hb5
    have HRX := Lib.hid hrx
    have HRL := Lib.hid (show cx.length ≤ 100000 by
      have h9 := congrArg List.length HCX.out
      rw [nds_len, List.length_map, List.length_take] at h9
      have h8 := HSL.out; have h7 := HLA.out; have h6 := HNX.out; omega)
    clear hri hrx hq' hla' hok' hs' hF' hqq
    have HB6 := Lib.hid ((HB4.out.below hb5 HB4.out.lt).alloc (.cells #[.slice Aq rx.length cq, .slice Bq 1 dq] 26))
    have HC6 := Lib.hid ((HC4.out.below hb5 HC4.out.lt).alloc (.cells #[.slice Aq rx.length cq, .slice Bq 1 dq] 26))
    have HP6 := Lib.hid ((HP4.out.below hb5 HP4.out.lt).alloc (.cells #[.slice Aq rx.length cq, .slice Bq 1 dq] 26))
    have HQ6 := Lib.hid (Blk.new w5 26 #[.slice Aq rx.length cq, .slice Bq 1 dq])
    have HD5 := Lib.hid (HD4.out.trans (hb5.mono HD4.out.size))
    have HD6 := Lib.hid (balloc HD5.out HD5.out.size (o := .cells #[.slice Aq rx.length cq, .slice Bq 1 dq] 26))
    have HL6 := Lib.hid (HL2.out.trans (HD6.out.mono HL2.out.size))
    clear t0 t1 x0 x1
    have t0 := HB6.out.cell 0
    have t1 := HB6.out.cell 1
    have x0 := HC6.out.cell 0
    have x1 := HC6.out.cell 1
    have p0 := HP6.out.cell 0
    have p1 := HP6.out.cell 1
    have q0 := HQ6.out.cell 0
    have q1 := HQ6.out.cell 1
    go_wp2_with fail
    refine (same_any An Av A B cn cv c g ext xs its _ (HX.out.below HD6.out) (HT.out.below HL6.out) HX2.out (by have := HXL.out; omega) (by have := HNI.out; omega)).mono ?_
    rintro e w7 ⟨hb7, rfl⟩
    have HDV := Lib.hid ((balloc (Below.refl w5.heap.size w5) (Nat.le_refl _) (o := .cells #[.slice Aq rx.length cq, .slice Bq 1 dq] 26)).trans (hb7.mono (by simp)))
    have HDW := Lib.hid (HW5.out.trans (HDV.out.mono HW5.out.size))
    have HP7 := Lib.hid (HP6.out.below hb7 HP6.out.lt)
    have HQ7 := Lib.hid (HQ6.out.below hb7 HQ6.out.lt)
    have HD7 := Lib.hid (HD6.out.trans (hb7.mono HD6.out.size))
    have HL7 := Lib.hid (HL6.out.trans (hb7.mono HL6.out.size))
    clear hb7 HB6 HC6 HP6 HQ6 t0 t1 x0 x1 p0 p1 q0 q1
    have p0 := HP7.out.cell 0
    have p1 := HP7.out.cell 1
    have q0 := HQ7.out.cell 0
    have q1 := HQ7.out.cell 1
    go_wp2_with fail
    refine (same_any Ap Bp Aq Bq cp dp cq dq cx rx [(la : Int) - (F : Int)] _ (HPX.out.below ((balloc (Below.refl w3.heap.size w3) (Nat.le_refl _)).trans ((HDW.out).mono (by simp)))) (HQX.out.below HDV.out) (by rw [HCX.out, HRX.out]) HRL.out (by simp)).mono ?_
    rintro e w8 ⟨hb8, rfl⟩
    have HL8 := Lib.hid (HL7.out.trans (hb8.mono HL7.out.size))
    clear hb8
    go_wp2_with fail
    refine (known_any _ (HE.out.below HL8.out)).mono ?_
    rintro e w9 ⟨rfl, hb9⟩
    have HL9 := Lib.hid (HL8.out.trans (hb9.mono HL8.out.size)); clear hb9
    go_wp2_with fail
    go_ret
    exact ⟨by first | rfl | simp, HL9.out⟩
end Go.Proofs.YthepmkjggfijoaaGreatDoor
