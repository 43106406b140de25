/-
  THE WALK of the law TreeAts: the program's At and the reference's are the same function; the tree is not changed.
-/
import Derived.Test.YthepmkjggfijoaaGreatDoorD04
import Derived.Test.YthepmkjggfijoaaGreatDoorRA
namespace Go.Proofs.YthepmkjggfijoaaGreatDoor
open Go.RowKit Mist
attribute [local go_sem] ofL_extract ofL_size ofL_get ofL_bytes ofL_append
set_option maxRecDepth 100000 in
set_option maxHeartbeats 2000000 in
theorem ats_law (A B : Option Addr) (c g : Nat) (xs : List NV) (its : List Int) (a : Int) (w : World) (hE : Env w) (hw : TreeArg w A B c xs its) :
    Calls Tryz.prog 9 #[.agg #[.slice A xs.length c, .slice B its.length g], .int .i64 a] w fun e w' => e = .returned (.bool true) ∧ Below w.heap.size w w' := by
  have HE := Lib.hid hE; clear hE
  have HBG := Lib.hid (hw.big g)
  have HSM := Lib.hid hw.small; clear hw
  have HL0 := Lib.hid (balloc (Below.refl w.heap.size w) (Nat.le_refl _) (o := .cells #[.slice A xs.length c, .slice B its.length g] 26))
  have HB0 := Lib.hid (Blk.new w 26 #[.slice A xs.length c, .slice B its.length g])
  go_enter Tryz.func9, Tryz.ntmps9
  go_wp2_with fail
  refine (HBG.out _ HL0.out).mono ?_
  rintro e w1 ⟨rfl, hb1⟩
  have HL1 := Lib.hid (HL0.out.trans (hb1.mono HL0.out.size))
  have HB1 := Lib.hid (HB0.out.below hb1 HB0.out.lt)
  clear hb1 HL0 HB0 HBG
  cases hbig : bigL ⟨nds xs, its⟩
  case true =>
    clear hbig
    go_wp2_with fail
    refine (known_any _ (HE.out.below HL1.out)).mono ?_
    rintro e w2 ⟨rfl, hb2⟩
    have HL2 := Lib.hid (HL1.out.trans (hb2.mono HL1.out.size)); clear hb2
    go_wp2_with fail
    go_ret
    exact ⟨by first | rfl | simp, HL2.out⟩
  obtain ⟨hT, hTR, hn, hm, htx, hkr, hkl⟩ := HSM.out hbig
  clear hbig HSM
  have HT := Lib.hid hT
  have HTR := Lib.hid hTR
  have HCP := Lib.hid fun W (hb : Below w.heap.size w W) => copy_any A B c g xs its W (hT.below hb) (by omega) (by omega) hkr
  have HRC := Lib.hid fun W (hb : Below w.heap.size w W) => rat_any A B c g xs its a W (hT.below hb) (by omega) (by omega) htx (fun n hn => (hTR n hn).num)
  have HKL := Lib.hid hkl
  have HNX := Lib.hid hn
  have HNI := Lib.hid hm
  clear hT hTR htx hkr hkl hn hm
  have t0 := HB1.out.cell 0
  have t1 := HB1.out.cell 1
  go_wp2_with fail
  refine (HCP.out _ HL1.out).mono ?_
  rintro e w2 ⟨hb2, nv, iv, ext, rfl, hri, hex⟩
  obtain ⟨An, cn, rfl⟩ := own_form hri.own
  obtain ⟨Av, cv, rfl⟩ := own_form hri.row
  have HX := Lib.hid (hri.tAt fun x hx => HKL.out x.1 (by rw [← hex]; exact List.mem_map.2 ⟨x, hx, rfl⟩))
  have HL2 := Lib.hid (HL1.out.trans (hb2.mono HL1.out.size))
  have HB2 := Lib.hid ((HB1.out.below hb2 HB1.out.lt).alloc (.cells #[.slice An ext.length cn, .slice Av its.length cv] 26))
  have HC2 := Lib.hid (Blk.new w2 26 #[.slice An ext.length cn, .slice Av its.length cv])
  have HD2 := Lib.hid (balloc (Below.refl w2.heap.size w2) (Nat.le_refl _) (o := .cells #[.slice An ext.length cn, .slice Av its.length cv] 26))
  have HX2 := Lib.hid hex
  clear hri hex hb2 HCP HB1 HL1 t0 t1
  have HXL := Lib.hid (show ext.length ≤ 900 by have := HX2.out; rw [← nds_len, this, nds_len]; exact HNX.out)
  have t0 := HB2.out.cell 0
  have t1 := HB2.out.cell 1
  have x0 := HC2.out.cell 0
  have x1 := HC2.out.cell 1
  go_wp2_with fail
  refine (at_any An Av cn cv ext its a _ (HX.out.below HD2.out) (by rw [HX2.out]; exact HTR.out) (HE.out.below (HL2.out.trans (HD2.out.mono HL2.out.size))) (by have := HXL.out; omega)).mono ?_
  rintro e w3 ⟨rfl, hb3⟩
  rw [HX2.out]
  have HD3 := Lib.hid (HD2.out.trans (hb3.mono HD2.out.size))
  have HB3 := Lib.hid (HB2.out.below hb3 HB2.out.lt)
  have HC3 := Lib.hid (HC2.out.below hb3 HC2.out.lt)
  have HL3 := Lib.hid (HL2.out.trans (HD3.out.mono HL2.out.size))
  clear hb3 HD2 HB2 HC2 t0 t1 x0 x1
  obtain ⟨p, hp⟩ : ∃ p, p = (atE ⟨nds xs, its⟩ a).1 := ⟨_, rfl⟩
  obtain ⟨q, hq⟩ : ∃ q, q = (atE ⟨nds xs, its⟩ a).2 := ⟨_, rfl⟩
  rw [← hp, ← hq] at HRC ⊢
  clear hp hq
  have t0 := HB3.out.cell 0
  have t1 := HB3.out.cell 1
  have x0 := HC3.out.cell 0
  have x1 := HC3.out.cell 1
  go_wp2_with fail
  refine (HRC.out _ HL3.out).mono ?_
  rintro e w5 ⟨rfl, hb5⟩
  have HB5 := Lib.hid (HB3.out.below hb5 HB3.out.lt)
  have HC5 := Lib.hid (HC3.out.below hb5 HC3.out.lt)
  have HD5 := Lib.hid (HD3.out.trans (hb5.mono HD3.out.size))
  have HL5 := Lib.hid (HL2.out.trans (HD5.out.mono HL2.out.size))
  clear hb5 HB3 HC3 HL3 HD3 t0 t1 x0 x1
  have t0 := HB5.out.cell 0
  have t1 := HB5.out.cell 1
  have x0 := HC5.out.cell 0
  have x1 := HC5.out.cell 1
  have e1 : (p == p) = true := by simp
  have e2 : (q == q) = true := by simp
  go_wp2_with fail
  refine (same_any An Av A B cn cv c g ext xs its _ (HX.out.below HD5.out) (HT.out.below HL5.out) HX2.out (by have := HXL.out; omega) (by have := HNI.out; omega)).mono ?_
  rintro e w8 ⟨hb8, rfl⟩
  have HL8 := Lib.hid (HL5.out.trans (hb8.mono HL5.out.size))
  clear hb8
  go_wp2_with fail
  refine (known_any _ (HE.out.below HL8.out)).mono ?_
  rintro e w9 ⟨rfl, hb9⟩
  have HL9 := Lib.hid (HL8.out.trans (hb9.mono HL8.out.size)); clear hb9
  go_wp2_with fail
  go_ret
  exact ⟨by first | rfl | simp, HL9.out⟩
end Go.Proofs.YthepmkjggfijoaaGreatDoor
