/-
  WALKS: the closure that puts a sign behind the others; what the building of brackets holds on to.
-/
import Derived.Test.YtpomgledekkjjaaDoorWalkM6
import Derived.Test.YtpomgledekkjjaaDoorOpen
import Derived.Test.YtpomgledekkjjaaDoorWords
import Derived.Test.YtpomgledekkjjaaDoorPlain20
set_option linter.all false
namespace Go.Proofs.YtpomgledekkjjaaDoor
open Go.ChangeShapes Go.WideShapes Go.ChangeAt Go.RowKit Go.MapKept Go.ChangeMaps Mist
def u8Vals (l : Bs) : List Value := l.map fun b => Value.int .u8 b.toNat
theorem u8Vals_snoc (l : Bs) (x : UInt8) : u8Vals (l ++ [x]) = u8Vals l ++ [.int .u8 x.toNat] := by simp [u8Vals]
theorem u8Vals_len (l : Bs) : (u8Vals l).length = l.length := by simp [u8Vals]
/-- A slice of bytes, in plain lists. -/
def U8s (w : World) (v : Value) (l : Bs) : Prop := ∃ A c, v = .slice A l.length c ∧ l.length ≤ c ∧ Reads w w.heap.size 1 A l.length (u8Vals l)
theorem U8s.none_ (w : World) : U8s w (.slice none 0 0) [] := ⟨none, 0, rfl, Nat.le_refl _, Reads.none_⟩
theorem U8s.below {w w' : World} {v : Value} {l : Bs} (h : U8s w v l) (hb : Below w.heap.size w w') : U8s w' v l := by
  obtain ⟨A, c, rfl, hc, hr⟩ := h
  exact ⟨A, c, rfl, hc, (hr.below hb).more hb.size⟩
structure URow (w : World) (b o : Nat) (l : Bs) : Prop where
  lt : b < w.heap.size
  at_ : ∀ k, k < l.length → w.cell? ⟨b, o + k, none⟩ = some (.int .u8 (gt l k).toNat)
theorem U8s.rowA {w : World} {A : Option Addr} {n c : Nat} {l : Bs} (h : U8s w (.slice A n c) l) (h0 : 0 < l.length) : ∃ b o, A = some ⟨b, o, none⟩ ∧ URow w b o l := by
  obtain ⟨A', c', hv, hc, hr⟩ := h
  injection hv with hA hn hcc
  subst hA
  obtain ⟨ad, rfl, hlt, hcell⟩ := hr.2 h0
  have hget : ∀ k, k < l.length → (u8Vals l)[k]? = some (.int .u8 (gt l k).toNat) := by
    intro k hk; simp [u8Vals, gt, hk]
  have hz := hcell 0 _ (hget 0 h0)
  obtain ⟨b, o, sp⟩ := ad
  have hsp : sp = none := by
    cases sp with
    | none => rfl
    | some x =>
      exfalso
      simp only [Addr.add, if_pos] at hz
      unfold World.cell? at hz
      simp only [Option.isSome_some, if_true] at hz
      split at hz <;> simp at hz
  subst hsp
  have hadd : ∀ n, (⟨b, o, none⟩ : Addr).add n = ⟨b, o + n, none⟩ := by
    intro n
    unfold Addr.add
    split
    · rename_i h; rw [h]; rfl
    · rfl
  refine ⟨b, o, rfl, hlt, fun k hk => ?_⟩
  have := hcell k _ (hget k hk)
  rw [hadd] at this; exact this
theorem URow.below {w w' : World} {b o B : Nat} {l : Bs} (h : URow w b o l) (hb : Below B w w') (hB : w.heap.size ≤ B) : URow w' b o l :=
  ⟨Nat.lt_of_lt_of_le h.lt hb.size, fun k hk => (hb.cell (p := ⟨b, o + k, none⟩) (Nat.lt_of_lt_of_le h.lt hB)).trans (h.at_ k hk)⟩
set_option maxRecDepth 100000 in
theorem bytes_of_trod {H : Type} {enc : TypeId × Value → H} {W : World} {base j : Nat} {v : Value} {d : DataW H} {ps : List MemPlace} {ts : List TypeId} {ds : List (DataW H)}
    (hval : Value.okWide Tryd.prog W .any base 22 v) (h : DataW.Trod enc Tryd.prog W 0 (fun _ => true) true 22 v d ps)
    (hsz : (DataW.weightsEach Tryd.prog ts ds).all (· ≤ reachBytes) = true) (ht : ts[j]? = some 22) (hd : ds[j]? = some d) :
    ∃ l : Bs, U8s W v l ∧ l.length ≤ 4611686018427387904 := by
  obtain ⟨a0, len0, cap0, rfl⟩ := okWide_slice Tryd.underlying22 hval
  obtain ⟨fuel, hf⟩ := h
  rcases Deep.open_slice Tryd.underlying22 hf with ⟨hcs, _⟩ | ⟨a, len, cap, m, n, D, Pl, hcs, _, hlc, hcap, hm, hx, hel⟩
  · have : (Value.slice a0 len0 cap0) = .slice none 0 0 := by simpa [Value.cells] using hcs
    rw [this]
    exact ⟨[], U8s.none_ W, by simp⟩
  · have hv : (Value.slice a0 len0 cap0) = .slice (some a) len cap := by simpa [Value.cells] using hcs
    rw [hv]
    have hmc : m = cap := by simpa using hm
    have htok : ∀ i, i < len → ∃ b : UInt8, W.cells? 0 (a.add (i * 1)) 1 = some [.int .u8 b.toNat] := by
      intro i hi
      obtain ⟨cs', h1, h2⟩ := hel i (by omega)
      rw [cells_u8] at h1
      obtain ⟨k, hk, hk2, hk3⟩ := DataW.trod_int u8_row h2
      have hk4 : 0 ≤ k ∧ k < 256 := by
        simp [Lit.wf, IntKind.min, IntKind.max, IntKind.signed, IntKind.bits] at hk3
        omega
      have g0 : cs' = [.int .u8 k] := by simpa using hk
      refine ⟨UInt8.ofNat k.toNat, ?_⟩
      rw [h1, g0, UInt8.toNat_ofNat', show ((k.toNat % 2 ^ 8 : Nat) : Int) = k by omega]
    obtain ⟨f, hfi⟩ := Deep.choose_lt htok
    have hdd : d = .slice ((List.range len).map D) ((List.range (m - len)).map fun j => D (len + j)) := (Prod.mk.inj hx).1
    have hlen : ((List.range len).map f).length = len := by simp
    have hwt := DataW.weights_mem_each (P := Tryd.prog) ht hd
    have hall := List.all_eq_true.1 hsz
    have hcap2 : cap * 1 ≤ reachBytes := by
      have h1 := hall (cap * 1) (hwt _ (by
        rw [hdd]
        simp only [DataW.weights, Tryd.underlying22, List.mem_cons]
        left
        have hb : Tryd.prog.bytesOf 5 = 1 := by kernel_rfl
        rw [hb]; simp; omega))
      simpa using h1
    have hr : reachBytes = 140737488351232 := rfl
    refine ⟨(List.range len).map f, ?_, by rw [hlen]; omega⟩
    refine ⟨some a, cap, by rw [hlen], by rw [hlen]; exact hlc, ?_⟩
    refine ⟨by rw [u8Vals_len, hlen]; omega, fun h0 => ⟨a, rfl, ?_, ?_⟩⟩
    · have h1 := hfi 0 (by omega)
      have := World.cells?_block h1 (by omega)
      simpa [block_of_add] using this
    · intro q u hu
      have hq : q < len := by
        have h1 := (List.getElem?_eq_some_iff.1 hu).1
        rw [u8Vals_len, hlen] at h1
        exact h1
      have h1 := (World.cells?_some (hfi q hq)).2.2 0 (by omega)
      rw [add_of_add, show q * 1 + 0 = q by omega] at h1
      rw [h1]
      rw [← hu]
      simp [u8Vals, hq]
end Go.Proofs.YtpomgledekkjjaaDoor
namespace Go.Proofs.YtpomgledekkjjaaDoor
open Go.RowKit Mist
attribute [local go_sem] ofL_extract ofL_size ofL_get ofL_bytes ofL_append
def natCells (l : List Nat) : List Value := l.map fun q : Nat => Value.int .i64 q
theorem natCells_append (a b : List Nat) : natCells (a ++ b) = natCells a ++ natCells b := by simp [natCells]
def closeArr (cl : Nat → Nat) : Array Value := ((List.range 130).map fun i => Value.int .i64 (cl i : Nat)).toArray
theorem closeArr_get (cl : Nat → Nat) (i : Nat) (h : i < 130) : (closeArr cl)[i]? = some (.int .i64 (cl i : Nat)) := by simp [closeArr, h]
theorem closeArr_set (cl : Nat → Nat) (q n : Nat) : (closeArr cl).setIfInBounds q (.int .i64 (n : Nat)) = closeArr (setAt cl q n) := by
  apply Array.ext'
  apply List.ext_getElem?
  intro i
  by_cases hi : i < 130
  · rcases Nat.decEq q i with h | h
    · simp [closeArr, setAt, hi, h, List.getElem?_set, Ne.symm h]
    · subst h; simp [closeArr, setAt, hi, List.getElem?_set]
  · simp [closeArr, hi]
structure PB (B : Nat) (w W : World) (g5 g8 gc : Nat) (v5 v6 : Value) (l : List Mist.Tok) (op : List Nat) (cl : Nat → Nat) : Prop where
  b5 : Blk W g5 23 #[v5]
  b8 : Blk W g8 3 #[.int .i64 (2 * (l.length : Int))]
  own : W.ownsRow B 26 3 v5 l.length (rowCells l)
  opn : W.ownsRow B 3 1 v6 op.length (natCells op)
  cls : Blk W gc 3 (closeArr cl)
  bel : Below B w W
  le5 : B ≤ g5
  le8 : B ≤ g8
  lec : B ≤ gc
  le : B ≤ W.heap.size
  n8 : v6.ownBlock ≠ some g8
  nc : v6.ownBlock ≠ some gc
  n8c : g8 ≠ gc
section
variable {B g5 g8 gc : Nat} {w W w2 : World} {v5 v6 v2 : Value} {l : List Mist.Tok} {op : List Nat} {cl : Nat → Nat}
theorem own_own_ne {e e' : TypeId} {b b' s s' n n' : Nat} {v v' : Value} {xs xs' : List Value} (h : W.ownsRow b e s v n xs) (h' : W.ownsRow b' e' s' v' n' xs') (hne : e ≠ e') : v.ownBlock = none ∨ v.ownBlock ≠ v'.ownBlock := by
  rcases h.2 with ⟨rfl, _⟩ | ⟨g, cap, cur, rfl, _, hg, _⟩
  · left; rfl
  · right
    rcases h'.2 with ⟨rfl, _⟩ | ⟨g', cap', cur', rfl, _, hg', _⟩
    · simp [Value.ownBlock]
    · intro e2
      have e2 : g = g' := by simpa [Value.ownBlock] using e2
      subst e2
      exact Blk.ne_ (show Blk W g e cur from hg) (show Blk W g e' cur' from hg') hne rfl
/-- A sign has been put behind the others. -/
theorem PB.put (h : PB B w W g5 g8 gc v5 v6 l op cl) (t : Mist.Tok) (o : Obj) (hg : (W.alloc o).grownBy w2 v5.ownBlock) (hown2 : w2.ownsRow B 26 3 v2 (l.length + 1) (rowCells l ++ tokCells t)) :
    PB B w ((w2.setCell ⟨g5, 0, none⟩ v2).setCell ⟨g8, 0, none⟩ (.int .i64 (2 * (l.length : Int) + 2))) g5 g8 gc v2 v6 (l ++ [t]) op cl := by
  have n58 : g5 ≠ g8 := h.b5.ne_ h.b8 (by decide)
  have n5c : g5 ≠ gc := h.b5.ne_ h.cls (by decide)
  have k5 := (h.b5.alloc o).grown hg (fun e => own_blk_ne h.own h.b5 (by decide) e.symm)
  have k8 := (h.b8.alloc o).grown hg (fun e => own_blk_ne h.own h.b8 (by decide) e.symm)
  have kc := (h.cls.alloc o).grown hg (fun e => own_blk_ne h.own h.cls (by decide) e.symm)
  have ko := (h.opn.alloc o).kept hg (own_own_ne (h.opn.alloc o) (h.own.alloc o) (by decide))
  have m5 := own_blk_ne hown2 k5 (by decide)
  have m8 := own_blk_ne hown2 k8 (by decide)
  refine ⟨?_, ?_, ?_, ?_, ?_, ?_, h.le5, h.le8, h.lec, ?_, h.n8, h.nc, h.n8c⟩
  · exact (k5.set_ 0 v2).far (p := ⟨g8, 0, none⟩) n58 _
  · have := (k8.far (p := ⟨g5, 0, none⟩) (Ne.symm n58) v2).set_ 0 (.int .i64 (2 * (l.length : Int) + 2))
    rw [List.length_append, List.length_singleton, show (2 * ((l.length + 1 : Nat) : Int)) = 2 * (l.length : Int) + 2 by omega]
    exact this
  · rw [List.length_append, rowCells_append]
    have e : rowCells [t] = tokCells t := by simp [rowCells]
    rw [e]
    exact ownsRow_setCell_other (ownsRow_setCell_other hown2 m5 _) m8 _
  · refine ownsRow_setCell_other (ownsRow_setCell_other ko ?_ _) h.n8 _
    exact own_blk_ne h.opn h.b5 (by decide)
  · exact (kc.far (p := ⟨g5, 0, none⟩) (Ne.symm n5c) _).far (p := ⟨g8, 0, none⟩) (Ne.symm h.n8c) _
  · exact (((h.bel.alloc h.le o).grown hg (by have := h.le; simp; omega) (fun k hk => (h.own.lt k hk).1)).setCell (p := ⟨g5, 0, none⟩) h.le5 _).setCell (p := ⟨g8, 0, none⟩) h.le8 _
  · have := hg.size; have := h.le; simp at *; omega
theorem PB.drewN (h : PB B w W g5 g8 gc v5 v6 l op cl) (n : Nat) : PB B w (W.drewN n) g5 g8 gc v5 v6 l op cl :=
  ⟨h.b5, h.b8, h.own, h.opn, h.cls, bdrewN h.bel n, h.le5, h.le8, h.lec, h.le, h.n8, h.nc, h.n8c⟩
/-- The number of the last sign is laid into the places that close. -/
theorem PB.close (h : PB B w W g5 g8 gc v5 v6 l op cl) (q n : Nat) : PB B w (W.setCell ⟨gc, q, none⟩ (.int .i64 (n : Nat))) g5 g8 gc v5 v6 l op (setAt cl q n) :=
  ⟨h.b5.far (p := ⟨gc, q, none⟩) (h.b5.ne_ h.cls (by decide)) _, h.b8.far (p := ⟨gc, q, none⟩) h.n8c _, ownsRow_setCell_other h.own (own_blk_ne h.own h.cls (by decide)) _, ownsRow_setCell_other h.opn h.nc _,
    (by have := h.cls.set_ q (.int .i64 (n : Nat)); rw [closeArr_set] at this; exact this), h.bel.setCell (p := ⟨gc, q, none⟩) h.lec _, h.le5, h.le8, h.lec, (by have := h.le; simpa using this), h.n8, h.nc, h.n8c⟩
/-- A bracket that was opened last is struck. -/
theorem PB.cut {q : Nat} {g cap : Nat} (h : PB B w W g5 g8 gc v5 (.slice (some ⟨g, 0, none⟩) (op.length + 1) cap) l (op ++ [q]) cl) : PB B w W g5 g8 gc v5 (.slice (some ⟨g, 0, none⟩) op.length cap) l op cl := by
  refine ⟨h.b5, h.b8, h.own, ?_, h.cls, h.bel, h.le5, h.le8, h.lec, h.le, h.n8, h.nc, h.n8c⟩
  have ho := h.opn
  rw [List.length_append, List.length_singleton, natCells_append] at ho
  exact ownsRow_pop (size := 1) (n := op.length) (xs := natCells op) (last := natCells [q]) (by simp [natCells]) ho
/-- A bracket is opened. -/
theorem PB.open_ {q : Nat} (h : PB B w W g5 g8 gc v5 v6 l op cl) (o : Obj) (hg : (W.alloc o).grownBy w2 v6.ownBlock) (hown2 : w2.ownsRow B 3 1 v2 (op.length + 1) (natCells op ++ [.int .i64 (q : Nat)])) (hat : v2.ownBlock = v6.ownBlock ∨ v2.ownBlock = some (W.alloc o).heap.size) :
    PB B w w2 g5 g8 gc v5 v2 l (op ++ [q]) cl := by
  refine ⟨(h.b5.alloc o).grown hg (fun e => own_blk_ne h.opn h.b5 (by decide) e.symm), (h.b8.alloc o).grown hg (fun e => h.n8 e.symm), (h.own.alloc o).kept hg (own_own_ne (h.own.alloc o) (h.opn.alloc o) (by decide)), ?_, (h.cls.alloc o).grown hg (fun e => h.nc e.symm),
    (h.bel.alloc h.le o).grown hg (by have := h.le; simp; omega) (fun k hk => (h.opn.lt k hk).1), h.le5, h.le8, h.lec, ?_, ?_, ?_, h.n8c⟩
  · rw [List.length_append, natCells_append]; exact hown2
  · have := hg.size; have := h.le; simp at *; omega
  · rcases hat with e | e
    · rw [e]; exact h.n8
    · rw [e]; intro e2; have := h.b8.lt; simp at e2; omega
  · rcases hat with e | e
    · rw [e]; exact h.nc
    · rw [e]; intro e2; have := h.cls.lt; simp at e2; omega
end
set_option maxRecDepth 100000 in
set_option maxHeartbeats 2000000 in
theorem pairPut_any (x : Bs) (hx : x.length = 1) (B g5 g8 gc : Nat) (w W : World) (v5 v6 : Value) (l : List Mist.Tok) (op : List Nat) (cl : Nat → Nat) (hl : l.length ≤ 1000) (h : PB B w W g5 g8 gc v5 v6 l op cl) :
    Calls Tryd.prog 4 #[.string (ofL x), .pointer (some ⟨g5, 0, none⟩), .pointer (some ⟨g8, 0, none⟩)] W fun e W' => e = .returned (.tuple #[]) ∧ ∃ v2, PB B w W' g5 g8 gc v2 v6 (l ++ [⟨4, x, 2 * (l.length : Int)⟩]) op cl := by
  obtain ⟨i0, hi0, hz0, hz1, hz2⟩ := info_parts token_info
  have c5 := h.b5.cell 0
  have f5 := h.b5.frozen 0
  have c8 := h.b8.cell 0
  have f8 := h.b8.frozen 0
  obtain ⟨A, c, rfl⟩ := own_form h.own
  have hB := h.le
  have HH := Lib.hid h; clear h
  have HX := Lib.hid hx
  obtain ⟨n, hn⟩ : ∃ n, n = l.length := ⟨_, rfl⟩
  go_enter Tryd.func4, Tryd.ntmps4
  go_wp2_with (at_builtin
               refine wpList_append_own _ rfl (.tmp 4) (.tmp 8) 23 rfl B 26 i0 _ 3 32 Tryd.underlying23 hi0 hz0 hz1 hz2 rfl (by decide) _ l.length (rowCells l) rfl
                 (HH.out.own.alloc _) ⟨W.heap.size, 0, none⟩ 1 1 (tokCells ⟨4, x, 2 * (l.length : Int)⟩) rfl rfl (cells_new _ _ _) (tokCells_one _) (by simp only [maxLen]; omega) (by omega) (by simp; omega) ?_
               intro v2 w2 hown2 hg2 _
               obtain ⟨A2, c2, rfl⟩ := own_form hown2
               have k5 := (HH.out.b5.alloc _).grown hg2 (fun e => own_blk_ne HH.out.own HH.out.b5 (by decide) e.symm)
               have k8 := (HH.out.b8.alloc _).grown hg2 (fun e => own_blk_ne HH.out.own HH.out.b8 (by decide) e.symm)
               have d5 := k5.cell 0
               have d8 := k8.cell 0
               have e5 := k5.frozen 0
               have e8 := k8.frozen 0
               have n58 : g5 ≠ g8 := HH.out.b5.ne_ HH.out.b8 (by decide))
  have H2 := Lib.hid (PB.put HH.out ⟨4, x, 2 * (l.length : Int)⟩ _ hg2 hown2)
  go_end0
  exact ⟨rfl, _, H2.out⟩
end Go.Proofs.YtpomgledekkjjaaDoor
