/-
  PARTS of the proof: RN2, RCU, RN3, RN4.
-/
import Derived.Test.YthepmkjggfijoaaGreatDoorB32
import Derived.Test.YthepmkjggfijoaaGreatDoorC34
import Derived.Test.YthepmkjggfijoaaGreatDoorG03
import Derived.Test.YthepmkjggfijoaaGreatDoorG04
set_option linter.all false
set_option maxRecDepth 100000
set_option maxHeartbeats 2000000
open Go.Lib (hid)
namespace Go.Proofs.YthepmkjggfijoaaGreatDoor
open Go.RowKit Mist
def sizeV (T:Tr)(k:Int):Int:=((sizesT T).getD []).getD k.toNat 0
def depthV (T:Tr)(k:Int):Int:=((upN (parentsOf T.nodes) k.toNat).length:Int)
def parentV (T:Tr)(k:Int):Int:=(parentsOf T.nodes).getD k.toNat 0
def itemV (T:Tr)(k:Int):Int:=((T.items.findIdx fun c=>decide (k≤c):Nat):Int)
def ansV (V E:Int):Int:=if E=0 then V else 0
theorem answer_err (fv:Value)(A B:Option Addr)(n m c d:Nat)(node r:Int)(w:World)(hr:r ≠ 0)
  (hC:∀ W,Below w.heap.size w W→Calls Tryz.prog 80 #[.agg #[.slice A n c,.slice B m d],.int .i64 node] W fun e w'=>e=.returned (.tuple #[.pointer none,.int .i64 r])∧Below W.heap.size W w') :
  Calls Tryz.prog 74 #[.agg #[fv],.agg #[.slice A n c,.slice B m d],.int .i64 node] w fun e w'=>e=.returned (.tuple #[.int .i64 0,.int .i64 r])∧Below w.heap.size w w':=by
 have HC:=hid hC;clear hC
 have k0:(r != 0)=true:=by simpa using hr
 have HL0:=hid (balloc (balloc (Below.refl w.heap.size w) (Nat.le_refl _) (o:=.cells #[fv] 86)) (by simp) (o:=.cells #[.slice A n c,.slice B m d] 26))
 go_enter Tryz.func74,Tryz.ntmps74
 go_wp2_with fail
 refine (HC.out _ HL0.out).mono ?_
 rintro e w2⟨rfl,hb0⟩
 have hb:=HL0.out.trans (hb0.mono HL0.out.size)
 go_wp2_with fail
 go_ret2
 exact⟨rfl,hb⟩
theorem answer_size_ok (A B:Option Addr)(n m c d nd:Nat)(V:Int)(Q:World→Nat→Prop)(w:World)
  (hC:∀ W,Below w.heap.size w W→Calls Tryz.prog 80 #[.agg #[.slice A n c,.slice B m d],.int .i64 (nd:Int)] W fun e w'=>Below W.heap.size W w'∧∃ wb,e=.returned (.tuple #[.pointer (some ⟨wb,0,none⟩),.int .i64 0])∧Q w' wb)
  (hF:∀ W wb,Q W wb→Calls Tryz.prog 78 #[.pointer (some ⟨wb,0,none⟩),.int .i64 (nd:Int)] W fun e w'=>e=.returned (.int .i64 V)∧Below W.heap.size W w') :
  Calls Tryz.prog 74 #[.agg #[.func (.func 78) #[] #[]],.agg #[.slice A n c,.slice B m d],.int .i64 (nd:Int)] w fun e w'=>e=.returned (.tuple #[.int .i64 V,.int .i64 0])∧Below w.heap.size w w':=by
 have HC:=hid hC;clear hC
 have HF:=hid hF;clear hF
 have HB0:=hid ((Blk.new w 86 #[.func (.func 78) #[] #[]]).alloc (.cells #[.slice A n c,.slice B m d] 26))
 have HL0:=hid (balloc (balloc (Below.refl w.heap.size w) (Nat.le_refl _) (o:=.cells #[.func (.func 78) #[] #[]] 86)) (by simp) (o:=.cells #[.slice A n c,.slice B m d] 26))
 go_enter Tryz.func74,Tryz.ntmps74
 go_wp2_with fail
 refine (HC.out _ HL0.out).mono ?_
 rintro e w2⟨hb0,wb,rfl,hq⟩
 have HQ:=hid hq;clear hq
 have HL:=hid (HL0.out.trans (hb0.mono HL0.out.size))
 have HB:=hid (HB0.out.below hb0 HB0.out.lt)
 have q0:=HB.out.cell 0
 clear hb0 HB0 HL0
 go_wp2_with fail
 refine (HF.out _ _ HQ.out).mono ?_
 rintro e w3⟨rfl,hb3⟩
 go_wp2_with fail
 go_ret2
 exact⟨rfl,HL.out.trans (hb3.mono HL.out.size)⟩
theorem treeSize_of (A B:Option Addr)(n m c d:Nat)(node V E:Int)(w:World)
  (hA:∀ W,Below w.heap.size w W→Calls Tryz.prog 74 #[.agg #[.func (.func 78) #[] #[]],.agg #[.slice A n c,.slice B m d],.int .i64 node] W fun e w'=>e=.returned (.tuple #[.int .i64 V,.int .i64 E])∧Below W.heap.size W w') :
  Calls Tryz.prog 34 #[.agg #[.slice A n c,.slice B m d],.int .i64 node] w fun e w'=>e=.returned (.tuple #[.int .i64 V,.int .i64 E])∧Below w.heap.size w w':=by
 have HA:=hid hA;clear hA
 have HL0:=hid (balloc (Below.refl w.heap.size w) (Nat.le_refl _) (o:=.cells #[.slice A n c,.slice B m d] 26))
 go_enter Tryz.func34,Tryz.ntmps34
 go_wp2_with fail
 refine (HA.out _ HL0.out).mono ?_
 rintro e w2⟨rfl,hb⟩
 go_wp2_with fail
 go_ret2
 exact⟨rfl,HL0.out.trans (hb.mono HL0.out.size)⟩
theorem answer_depth_ok (A B:Option Addr)(n m c d nd:Nat)(V:Int)(Q:World→Nat→Prop)(w:World)
  (hC:∀ W,Below w.heap.size w W→Calls Tryz.prog 80 #[.agg #[.slice A n c,.slice B m d],.int .i64 (nd:Int)] W fun e w'=>Below W.heap.size W w'∧∃ wb,e=.returned (.tuple #[.pointer (some ⟨wb,0,none⟩),.int .i64 0])∧Q w' wb)
  (hF:∀ W wb,Q W wb→Calls Tryz.prog 73 #[.pointer (some ⟨wb,0,none⟩),.int .i64 (nd:Int)] W fun e w'=>e=.returned (.int .i64 V)∧Below W.heap.size W w') :
  Calls Tryz.prog 74 #[.agg #[.func (.func 73) #[] #[]],.agg #[.slice A n c,.slice B m d],.int .i64 (nd:Int)] w fun e w'=>e=.returned (.tuple #[.int .i64 V,.int .i64 0])∧Below w.heap.size w w':=by
 have HC:=hid hC;clear hC
 have HF:=hid hF;clear hF
 have HB0:=hid ((Blk.new w 86 #[.func (.func 73) #[] #[]]).alloc (.cells #[.slice A n c,.slice B m d] 26))
 have HL0:=hid (balloc (balloc (Below.refl w.heap.size w) (Nat.le_refl _) (o:=.cells #[.func (.func 73) #[] #[]] 86)) (by simp) (o:=.cells #[.slice A n c,.slice B m d] 26))
 go_enter Tryz.func74,Tryz.ntmps74
 go_wp2_with fail
 refine (HC.out _ HL0.out).mono ?_
 rintro e w2⟨hb0,wb,rfl,hq⟩
 have HQ:=hid hq;clear hq
 have HL:=hid (HL0.out.trans (hb0.mono HL0.out.size))
 have HB:=hid (HB0.out.below hb0 HB0.out.lt)
 have q0:=HB.out.cell 0
 clear hb0 HB0 HL0
 go_wp2_with fail
 refine (HF.out _ _ HQ.out).mono ?_
 rintro e w3⟨rfl,hb3⟩
 go_wp2_with fail
 go_ret2
 exact⟨rfl,HL.out.trans (hb3.mono HL.out.size)⟩
theorem treeDepth_of (A B:Option Addr)(n m c d:Nat)(node V E:Int)(w:World)
  (hA:∀ W,Below w.heap.size w W→Calls Tryz.prog 74 #[.agg #[.func (.func 73) #[] #[]],.agg #[.slice A n c,.slice B m d],.int .i64 node] W fun e w'=>e=.returned (.tuple #[.int .i64 V,.int .i64 E])∧Below W.heap.size W w') :
  Calls Tryz.prog 30 #[.agg #[.slice A n c,.slice B m d],.int .i64 node] w fun e w'=>e=.returned (.tuple #[.int .i64 V,.int .i64 E])∧Below w.heap.size w w':=by
 have HA:=hid hA;clear hA
 have HL0:=hid (balloc (Below.refl w.heap.size w) (Nat.le_refl _) (o:=.cells #[.slice A n c,.slice B m d] 26))
 go_enter Tryz.func30,Tryz.ntmps30
 go_wp2_with fail
 refine (HA.out _ HL0.out).mono ?_
 rintro e w2⟨rfl,hb⟩
 go_wp2_with fail
 go_ret2
 exact⟨rfl,HL0.out.trans (hb.mono HL0.out.size)⟩
theorem answer_parent_ok (A B:Option Addr)(n m c d nd:Nat)(V:Int)(Q:World→Nat→Prop)(w:World)
  (hC:∀ W,Below w.heap.size w W→Calls Tryz.prog 80 #[.agg #[.slice A n c,.slice B m d],.int .i64 (nd:Int)] W fun e w'=>Below W.heap.size W w'∧∃ wb,e=.returned (.tuple #[.pointer (some ⟨wb,0,none⟩),.int .i64 0])∧Q w' wb)
  (hF:∀ W wb,Q W wb→Calls Tryz.prog 79 #[.pointer (some ⟨wb,0,none⟩),.int .i64 (nd:Int)] W fun e w'=>e=.returned (.int .i64 V)∧Below W.heap.size W w') :
  Calls Tryz.prog 74 #[.agg #[.func (.func 79) #[] #[]],.agg #[.slice A n c,.slice B m d],.int .i64 (nd:Int)] w fun e w'=>e=.returned (.tuple #[.int .i64 V,.int .i64 0])∧Below w.heap.size w w':=by
 have HC:=hid hC;clear hC
 have HF:=hid hF;clear hF
 have HB0:=hid ((Blk.new w 86 #[.func (.func 79) #[] #[]]).alloc (.cells #[.slice A n c,.slice B m d] 26))
 have HL0:=hid (balloc (balloc (Below.refl w.heap.size w) (Nat.le_refl _) (o:=.cells #[.func (.func 79) #[] #[]] 86)) (by simp) (o:=.cells #[.slice A n c,.slice B m d] 26))
 go_enter Tryz.func74,Tryz.ntmps74
 go_wp2_with fail
 refine (HC.out _ HL0.out).mono ?_
 rintro e w2⟨hb0,wb,rfl,hq⟩
 have HQ:=hid hq;clear hq
 have HL:=hid (HL0.out.trans (hb0.mono HL0.out.size))
 have HB:=hid (HB0.out.below hb0 HB0.out.lt)
 have q0:=HB.out.cell 0
 clear hb0 HB0 HL0
 go_wp2_with fail
 refine (HF.out _ _ HQ.out).mono ?_
 rintro e w3⟨rfl,hb3⟩
 go_wp2_with fail
 go_ret2
 exact⟨rfl,HL.out.trans (hb3.mono HL.out.size)⟩
theorem treeParent_of (A B:Option Addr)(n m c d:Nat)(node V E:Int)(w:World)
  (hA:∀ W,Below w.heap.size w W→Calls Tryz.prog 74 #[.agg #[.func (.func 79) #[] #[]],.agg #[.slice A n c,.slice B m d],.int .i64 node] W fun e w'=>e=.returned (.tuple #[.int .i64 V,.int .i64 E])∧Below W.heap.size W w') :
  Calls Tryz.prog 35 #[.agg #[.slice A n c,.slice B m d],.int .i64 node] w fun e w'=>e=.returned (.tuple #[.int .i64 V,.int .i64 E])∧Below w.heap.size w w':=by
 have HA:=hid hA;clear hA
 have HL0:=hid (balloc (Below.refl w.heap.size w) (Nat.le_refl _) (o:=.cells #[.slice A n c,.slice B m d] 26))
 go_enter Tryz.func35,Tryz.ntmps35
 go_wp2_with fail
 refine (HA.out _ HL0.out).mono ?_
 rintro e w2⟨rfl,hb⟩
 go_wp2_with fail
 go_ret2
 exact⟨rfl,HL0.out.trans (hb.mono HL0.out.size)⟩
theorem answer_item_ok (A B:Option Addr)(n m c d nd:Nat)(V:Int)(Q:World→Nat→Prop)(w:World)
  (hC:∀ W,Below w.heap.size w W→Calls Tryz.prog 80 #[.agg #[.slice A n c,.slice B m d],.int .i64 (nd:Int)] W fun e w'=>Below W.heap.size W w'∧∃ wb,e=.returned (.tuple #[.pointer (some ⟨wb,0,none⟩),.int .i64 0])∧Q w' wb)
  (hF:∀ W wb,Q W wb→Calls Tryz.prog 82 #[.pointer (some ⟨wb,0,none⟩),.int .i64 (nd:Int)] W fun e w'=>e=.returned (.int .i64 V)∧Below W.heap.size W w') :
  Calls Tryz.prog 74 #[.agg #[.func (.func 82) #[] #[]],.agg #[.slice A n c,.slice B m d],.int .i64 (nd:Int)] w fun e w'=>e=.returned (.tuple #[.int .i64 V,.int .i64 0])∧Below w.heap.size w w':=by
 have HC:=hid hC;clear hC
 have HF:=hid hF;clear hF
 have HB0:=hid ((Blk.new w 86 #[.func (.func 82) #[] #[]]).alloc (.cells #[.slice A n c,.slice B m d] 26))
 have HL0:=hid (balloc (balloc (Below.refl w.heap.size w) (Nat.le_refl _) (o:=.cells #[.func (.func 82) #[] #[]] 86)) (by simp) (o:=.cells #[.slice A n c,.slice B m d] 26))
 go_enter Tryz.func74,Tryz.ntmps74
 go_wp2_with fail
 refine (HC.out _ HL0.out).mono ?_
 rintro e w2⟨hb0,wb,rfl,hq⟩
 have HQ:=hid hq;clear hq
 have HL:=hid (HL0.out.trans (hb0.mono HL0.out.size))
 have HB:=hid (HB0.out.below hb0 HB0.out.lt)
 have q0:=HB.out.cell 0
 clear hb0 HB0 HL0
 go_wp2_with fail
 refine (HF.out _ _ HQ.out).mono ?_
 rintro e w3⟨rfl,hb3⟩
 go_wp2_with fail
 go_ret2
 exact⟨rfl,HL.out.trans (hb3.mono HL.out.size)⟩
theorem treeItem_of (A B:Option Addr)(n m c d:Nat)(node V E:Int)(w:World)
  (hA:∀ W,Below w.heap.size w W→Calls Tryz.prog 74 #[.agg #[.func (.func 82) #[] #[]],.agg #[.slice A n c,.slice B m d],.int .i64 node] W fun e w'=>e=.returned (.tuple #[.int .i64 V,.int .i64 E])∧Below W.heap.size W w') :
  Calls Tryz.prog 37 #[.agg #[.slice A n c,.slice B m d],.int .i64 node] w fun e w'=>e=.returned (.tuple #[.int .i64 V,.int .i64 E])∧Below w.heap.size w w':=by
 have HA:=hid hA;clear hA
 have HL0:=hid (balloc (Below.refl w.heap.size w) (Nat.le_refl _) (o:=.cells #[.slice A n c,.slice B m d] 26))
 go_enter Tryz.func37,Tryz.ntmps37
 go_wp2_with fail
 refine (HA.out _ HL0.out).mono ?_
 rintro e w2⟨rfl,hb⟩
 go_wp2_with fail
 go_ret2
 exact⟨rfl,HL0.out.trans (hb.mono HL0.out.size)⟩
def AnsOf (K:Nat)(w:World)(A B:Option Addr)(n m c d:Nat)(node V E:Int):Prop:=Calls Tryz.prog 74 #[.agg #[.func (.func K) #[] #[]],.agg #[.slice A n c,.slice B m d],.int .i64 node] w fun e w'=>e=.returned (.tuple #[.int .i64 V,.int .i64 E])∧Below w.heap.size w w'
def AtWork (W:World)(wb:Nat)(A B:Option Addr)(c d:Nat)(xs:List NV)(its sz:List Int):Prop:=∃ S,WorkAt W wb (.slice A xs.length c) (.slice B its.length d) xs.length S (parentsOf (nds xs))∧S.length=xs.length∧(∀ i,i < xs.length→S.getD i 0=((sz.getD i 0).toNat:Int))∧TAt W A B xs its
theorem ask_any (K:Nat)(VV:Tr→Int→Int)(A B:Option Addr)(c d:Nat)(xs:List NV)(its:List Int)(node:Int)(w:World)(hT:TAt w A B xs its)(hR:TrR (nds xs))(hE:Env w)
  (hok:∀ (nd_:Nat) (V:Int) (Q:World→Nat→Prop) (w:World),(∀ W,Below w.heap.size w W→Calls Tryz.prog 80 #[.agg #[.slice A xs.length c,.slice B its.length d],.int .i64 (nd_:Int)] W fun e w'=>Below W.heap.size W w'∧∃ wb,e=.returned (.tuple #[.pointer (some ⟨wb,0,none⟩),.int .i64 0])∧Q w' wb) →
   (∀ W wb,Q W wb→Calls Tryz.prog K #[.pointer (some ⟨wb,0,none⟩),.int .i64 (nd_:Int)] W fun e w'=>e=.returned (.int .i64 V)∧Below W.heap.size W w')→AnsOf K w A B xs.length its.length c d (nd_:Int) V 0)
  (hv:∀ (nd_:Nat) (sz:List Int) (W:World) (wb:Nat),nd_ < xs.length→its.length≤60→xs.length≤800→Rooted ⟨nds xs,its⟩→sizesT ⟨nds xs,its⟩=some sz→SzOk (nds xs) sz (nds xs).length→AtWork W wb A B c d xs its sz→Calls Tryz.prog K #[.pointer (some ⟨wb,0,none⟩),.int .i64 (nd_:Int)] W fun e w'=>e=.returned (.int .i64 (VV ⟨nds xs,its⟩ (nd_:Int)))∧Below W.heap.size W w') :
  ∀ W,Below w.heap.size w W→AnsOf K W A B xs.length its.length c d node (ansV (VV ⟨nds xs,its⟩ node) (askE ⟨nds xs,its⟩ xs.length node)) (askE ⟨nds xs,its⟩ xs.length node):=by
 intro W hb
 by_cases hc:checkW ⟨nds xs,its⟩=0
 ·obtain⟨hl,hro,_⟩:=checkW_zero hc
  have hll:=large_le hl
  simp only [nds_len2] at hll
  obtain⟨sz,hz,hs⟩:=Rooted.sizes hro.fo
  cases hno:Mist.within node 0 ((xs.length:Int) - 1)
  ·have ha:askE ⟨nds xs,its⟩ xs.length node=7:=by unfold askE;rw [if_neg (by simpa using hc),if_pos hno]
   rw [ha]
   exact answer_err _ A B xs.length its.length c d node 7 W (by decide) fun W2 hb2=>there_none A B c d xs its node W2 (hT.below (hb.trans (hb2.mono hb.size))) hR (hE.below (hb.trans (hb2.mono hb.size))) hc (by omega) hno
  ·have ha:askE ⟨nds xs,its⟩ xs.length node=0:=by unfold askE;rw [if_neg (by simpa using hc),if_neg (by rw [hno];decide)]
   have hin:0≤node∧node≤(xs.length:Int) - 1:=by simpa [Mist.within] using hno
   obtain⟨nd_,rfl⟩:∃ k:Nat,node=(k:Int):=⟨node.toNat,by omega⟩
   rw [ha,show ∀ x,ansV x 0=x from fun _=>if_pos rfl]
   refine hok nd_ _ (fun W wb=>AtWork W wb A B c d xs its sz) W (fun W2 hb2=>?_) (fun W wb h=>hv nd_ sz W wb (by omega) hll.2 hll.1 hro hz hs h)
   have hb3:=hb.trans (hb2.mono hb.size)
   refine (there_ok A B c d xs its nd_ _ W2 (hT.below hb3) hR (hE.below hb3) hc (by omega) (szOk_wf hs) (szIs_of hs (by show (nds xs).length≤_;rw [nds_len2];omega)) hno).mono ?_
   rintro e w' ⟨h1,wb,S,h2,h3,_,h5,h6⟩
   exact⟨h1,wb,h2,S,h3,h5,h6,(hT.below hb3).below h1⟩
 ·have ha:askE ⟨nds xs,its⟩ xs.length node=checkW ⟨nds xs,its⟩:=by unfold askE;rw [if_pos hc]
  rw [ha,show ∀ x,ansV x (checkW ⟨nds xs,its⟩)=0 from fun _=>if_neg hc]
  exact answer_err _ A B xs.length its.length c d node _ W hc fun W2 hb2=>there_bad A B c d xs its node W2 (hT.below (hb.trans (hb2.mono hb.size))) hR (hE.below (hb.trans (hb2.mono hb.size))) hc
theorem treeSize_any (A B:Option Addr)(c d:Nat)(xs:List NV)(its:List Int)(node:Int)(w:World)(hT:TAt w A B xs its)(hR:TrR (nds xs))(hE:Env w) :
  Calls Tryz.prog 34 #[.agg #[.slice A xs.length c,.slice B its.length d],.int .i64 node] w fun e w'=>e=.returned (.tuple #[.int .i64 (ansV (sizeV ⟨nds xs,its⟩ node) (askE ⟨nds xs,its⟩ xs.length node)),.int .i64 (askE ⟨nds xs,its⟩ xs.length node)])∧Below w.heap.size w w' :=
 treeSize_of A B xs.length its.length c d node _ _ w (ask_any _ sizeV A B c d xs its node w hT hR hE (fun nd_ V Q w h1 h2=>answer_size_ok A B xs.length its.length c d nd_ V Q w h1 h2) (fun nd_ sz W wb hn hi hx hro hz hs ⟨S,h1,h2,h3,h4⟩=>by
  refine (wsize_any wb xs.length nd_ _ S _ _ W h1 h2 (by omega)).mono ?_
  rintro e w' ⟨rfl,hb⟩
  refine⟨?_,hb⟩
  rw [h3 nd_ (by omega)]
  have hp:=szPos hs (i:=nd_) (by rw [nds_len2];omega)
  have:sizeV ⟨nds xs,its⟩ (nd_:Int)=sz.getD nd_ 0:=by unfold sizeV;rw [hz];rfl
  rw [this]
  congr 2
  omega))
theorem treeDepth_any (A B:Option Addr)(c d:Nat)(xs:List NV)(its:List Int)(node:Int)(w:World)(hT:TAt w A B xs its)(hR:TrR (nds xs))(hE:Env w) :
  Calls Tryz.prog 30 #[.agg #[.slice A xs.length c,.slice B its.length d],.int .i64 node] w fun e w'=>e=.returned (.tuple #[.int .i64 (ansV (depthV ⟨nds xs,its⟩ node) (askE ⟨nds xs,its⟩ xs.length node)),.int .i64 (askE ⟨nds xs,its⟩ xs.length node)])∧Below w.heap.size w w' :=
 treeDepth_of A B xs.length its.length c d node _ _ w (ask_any _ depthV A B c d xs its node w hT hR hE (fun nd_ V Q w h1 h2=>answer_depth_ok A B xs.length its.length c d nd_ V Q w h1 h2) (fun nd_ sz W wb hn hi hx hro hz hs ⟨S,h1,h2,h3,h4⟩=>by
  obtain⟨hG,hGl⟩:=goodP_of (szOk_wf hs)
  rw [nds_len2] at hGl
  exact wdepth_any wb xs.length nd_ _ S _ _ W h1 hG hGl (by omega) (by omega)))
theorem treeParent_any (A B:Option Addr)(c d:Nat)(xs:List NV)(its:List Int)(node:Int)(w:World)(hT:TAt w A B xs its)(hR:TrR (nds xs))(hE:Env w) :
  Calls Tryz.prog 35 #[.agg #[.slice A xs.length c,.slice B its.length d],.int .i64 node] w fun e w'=>e=.returned (.tuple #[.int .i64 (ansV (parentV ⟨nds xs,its⟩ node) (askE ⟨nds xs,its⟩ xs.length node)),.int .i64 (askE ⟨nds xs,its⟩ xs.length node)])∧Below w.heap.size w w' :=
 treeParent_of A B xs.length its.length c d node _ _ w (ask_any _ parentV A B c d xs its node w hT hR hE (fun nd_ V Q w h1 h2=>answer_parent_ok A B xs.length its.length c d nd_ V Q w h1 h2) (fun nd_ sz W wb hn hi hx hro hz hs ⟨S,h1,h2,h3,h4⟩=>by
  obtain⟨hG,hGl⟩:=goodP_of (szOk_wf hs)
  rw [nds_len2] at hGl
  exact wparent_any wb xs.length nd_ _ S _ _ W h1 hGl (by omega)))
theorem treeItem_any (A B:Option Addr)(c d:Nat)(xs:List NV)(its:List Int)(node:Int)(w:World)(hT:TAt w A B xs its)(hR:TrR (nds xs))(hE:Env w) :
  Calls Tryz.prog 37 #[.agg #[.slice A xs.length c,.slice B its.length d],.int .i64 node] w fun e w'=>e=.returned (.tuple #[.int .i64 (ansV (itemV ⟨nds xs,its⟩ node) (askE ⟨nds xs,its⟩ xs.length node)),.int .i64 (askE ⟨nds xs,its⟩ xs.length node)])∧Below w.heap.size w w' :=
 treeItem_of A B xs.length its.length c d node _ _ w (ask_any _ itemV A B c d xs its node w hT hR hE (fun nd_ V Q w h1 h2=>answer_item_ok A B xs.length its.length c d nd_ V Q w h1 h2) (fun nd_ sz W wb hn hi hx hro hz hs ⟨S,h1,h2,h3,h4⟩=>by
  obtain⟨hG,hGl⟩:=goodP_of (szOk_wf hs)
  rw [nds_len2] at hGl
  obtain⟨q,r,hq,hr,hf,hl⟩:=item_up (szOk_wf hs) hro.fo (i:=nd_) (by show nd_ < (nds xs).length;rw [nds_len2];omega)
  refine (witem_any wb xs.length nd_ q r d _ S _ B its W h1 hG hGl (by omega) (by omega) h4.items (by omega) hq hf hr hl).mono ?_
  rintro e w' ⟨rfl,hb⟩
  refine⟨?_,hb⟩
  have hqi:(its.findIdx fun c=>decide ((nd_:Int)≤c))=q:=findIdx_first hq (by omega) hf
  unfold itemV
  rw [hqi]))
end Go.Proofs.YthepmkjggfijoaaGreatDoor
namespace Go.Proofs.YthepmkjggfijoaaGreatDoor
open Go.RowKit Mist
attribute [local go_sem] ofL_extract ofL_size ofL_get ofL_bytes ofL_append
theorem askE_bad {t:Tr}{n:Nat}{i:Int}(h:checkW t ≠ 0):askE t n i=checkW t:=if_pos h
theorem askE_none {t:Tr}{n:Nat}{i:Int}(h:checkW t=0)(h2:Mist.within i 0 ((n:Int) - 1)=false):askE t n i=7:=by unfold askE;rw [if_neg (by rw [h];simp),if_pos h2]
theorem askE_ok {t:Tr}{n:Nat}{i:Int}(h:checkW t=0)(h2:Mist.within i 0 ((n:Int) - 1)=true):askE t n i=0:=by unfold askE;rw [if_neg (by rw [h];simp),if_neg (by rw [h2];simp)]
end Go.Proofs.YthepmkjggfijoaaGreatDoor
namespace Go.Proofs.YthepmkjggfijoaaGreatDoor
open Go.RowKit Mist
attribute [local go_sem] ofL_extract ofL_size ofL_get ofL_bytes ofL_append
theorem ropen_any (A B:Option Addr)(c d:Nat)(xs:List NV)(its:List Int)(node:Int)(w:World)(hT:TAt w A B xs its)(hn:xs.length≤10000)(hm:its.length≤10000)(hl:∀ x ∈ xs,x.1.text.length≤100000000)(hnum:∀ n ∈ nds xs,lowN≤n.n∧n.n≤highN) :
  Calls Tryz.prog 38 #[.agg #[.slice A xs.length c,.slice B its.length d],.int .i64 node] w fun e w'=>e=.returned (.int .i64 (askE ⟨nds xs,its⟩ xs.length node))∧Below w.heap.size w w':=by
 have HCK:=hid fun W (hb:Below w.heap.size w W)=>checkR_any A B c d xs its W (hT.below hb) hn hm hl
 have HEQ:=hid (checkW_eq ⟨nds xs,its⟩ hnum)
 obtain⟨T,hTT⟩:∃ T:Tr,T=⟨nds xs,its⟩:=⟨_,rfl⟩
 rw [← hTT] at HCK HEQ ⊢
 clear hTT hT hm hl hnum
 obtain⟨n,hnn⟩:∃ n,n=xs.length:=⟨_,rfl⟩
 rw [← hnn] at HCK hn ⊢
 clear hnn
 have HB0:=hid (Blk.new w 26 #[.slice A n c,.slice B its.length d])
 have HL0:=hid (balloc (Below.refl w.heap.size w) (Nat.le_refl _) (o:=.cells #[.slice A n c,.slice B its.length d] 26))
 go_enter Tryz.func38,Tryz.ntmps38
 go_wp2_with fail
 refine (HCK.out _ HL0.out).mono ?_
 rintro e w1⟨rfl,hb1⟩
 rw [← HEQ.out]
 have HB:=hid (HB0.out.below hb1 HB0.out.lt)
 have HL:=hid (HL0.out.trans (hb1.mono HL0.out.size))
 clear hb1 HB0 HL0 HCK
 have t0:=HB.out.cell 0
 by_cases hE0:checkW T=0
 case neg =>
  have HX:=hid (show askE T n node=checkW T from askE_bad hE0)
  obtain⟨E,hE⟩:∃ E,E=checkW T:=⟨_,rfl⟩
  rw [← hE] at hE0 HX ⊢
  have e1:(E != 0)=true:=by simpa using hE0
  clear hE hE0
  go_wp2_with fail
  go_ret
  exact⟨by rw [HX.out];first | done | rfl,HL.out⟩
 have HE0:=hid hE0
 rw [hE0]
 clear hE0
 by_cases hi0:node < 0
 ·have d1:decide (node < 0)=true:=decide_eq_true hi0
  have HX:=hid (askE_none (n:=n) (i:=node) HE0.out (by unfold Mist.within;simp;omega))
  clear hi0
  go_wp2_with fail
  go_ret
  exact⟨by rw [HX.out];first | done | rfl,HL.out⟩
 have d1:decide (node < 0)=false:=decide_eq_false hi0
 obtain⟨q,rfl⟩:∃ q:Nat,node=(q:Int):=⟨node.toNat,by omega⟩
 by_cases hqn:n≤q
 ·have d2:decide (n≤q)=true:=decide_eq_true hqn
  have d2':decide ((n:Int)≤(q:Int))=true:=decide_eq_true (by omega)
  have HX:=hid (askE_none (n:=n) (i:=(q:Int)) HE0.out (by unfold Mist.within;simp;omega))
  go_wp2_with fail
  go_ret
  exact⟨by rw [HX.out];first | done | rfl,HL.out⟩
 ·have d2:decide (n≤q)=false:=decide_eq_false hqn
  have d2':decide ((n:Int)≤(q:Int))=false:=decide_eq_false (by omega)
  have HX:=hid (askE_ok (n:=n) (i:=(q:Int)) HE0.out (by unfold Mist.within;simp;omega))
  go_wp2_with fail
  go_ret
  exact⟨by rw [HX.out];first | done | rfl,HL.out⟩
theorem askE_zero {T:Tr}{n:Nat}{i:Int}(h:askE T n i=0):checkW T=0∧0≤i∧i < (n:Int):=by
 unfold askE at h
 split at h
 ·rename_i h1;exact absurd h h1
 ·rename_i h1
  split at h
  ·cases h
  ·rename_i h2
   refine⟨by simpa using h1,?_⟩
   simp [Mist.within] at h2
   omega
theorem above_any (A B:Option Addr)(c m d:Nat)(xs:List NV)(its:List Int)(node:Int)(w:World)(hT:TAt w A B xs its)(hn:xs.length≤10000) :
  Calls Tryz.prog 84 #[.agg #[.slice A xs.length c,.slice B m d],.int .i64 node] w fun e w'=>e=.returned (.int .i64 (aboveN (nds xs) node))∧Below w.heap.size w w':=by
 have HT:=hid hT;clear hT
 obtain⟨n,hnn⟩:∃ n,n=xs.length:=⟨_,rfl⟩
 rw [← hnn] at hn ⊢
 have HN:=hid hnn;clear hnn
 have HB0:=hid (Blk.new w 26 #[.slice A n c,.slice B m d])
 have HL0:=hid (balloc (Below.refl w.heap.size w) (Nat.le_refl _) (o:=.cells #[.slice A n c,.slice B m d] 26))
 go_enter Tryz.func84,Tryz.ntmps84
 go_wp2_with fail
 go_loopw [5,6] (fun i _ wr=>∃ k:Nat,k≤n∧i=.int .i64 k∧Hid (((nds xs).take k).all (fun y=>!(y.kids.any (· == node)))=true)∧Hid (Blk wr w.heap.size 26 #[.slice A n c,.slice B m d])∧Hid (Below w.heap.size w wr)) (fun i _ _=>n - (intOf i).toNat)
 case atStart=>exact⟨0,Nat.zero_le _,rfl,hid rfl,HB0,HL0⟩
 case round =>
  clear HB0 HL0
  obtain⟨wo,rfl⟩:∃ wo:World,wo=wr:=⟨_,rfl⟩
  obtain⟨k,hk,rfl,HA,HB,HL⟩:=hrel
  have t0:=HB.out.cell 0
  have t1:=HB.out.cell 1
  by_cases hkn:k < n
  ·have i3:decide (k < n)=true:=decide_eq_true hkn
   obtain⟨b,o,rfl,hN⟩:=HT.out.nodes (by rw [← HN.out];omega)
   obtain⟨x,hx⟩:∃ x,xs[k]? = some x:=xs_at (by rw [← HN.out];exact hkn)
   obtain⟨K,ck,hxe,hkl,hxk⟩:=hN.kid hx
   have HKV:=hid (show ∀ W,Below w.heap.size w W→W.cell? ⟨b,o+k * 5+3,none⟩=some (.slice K x.1.kids.length ck) from fun W hb=>by rw [← hxe];exact (hb.cell (by exact hN.lt)).trans (hN.c3 k x hx))
   have HXG:=hid (nds_get hx)
   have HXK:=hid hxk
   clear hN hx hxe hxk
   obtain⟨y,hy⟩:∃ y,y=x.1:=⟨_,rfl⟩
   rw [← hy] at HKV HXG HXK hkl
   clear hy
   obtain⟨nk,hnk⟩:∃ nk,nk=y.kids.length:=⟨_,rfl⟩
   rw [← hnk] at HKV hkl
   have HNK:=hid hnk;clear hnk
   have i1:(0:Int)≤(k:Int):=by omega
   have i2:(k:Int) < (n:Int):=by omega
   have HS:=hid (show (nds xs).take (k+1)=(nds xs).take k ++ [y] by rw [List.take_add_one,HXG.out];rfl)
   go_wp2_with fail
   go_loopw [6] (fun j wr_1=>∃ q:Nat,q≤nk∧j=.int .i64 q∧Hid ((y.kids.take q).all (fun z=>!(z == node))=true)∧Hid (Blk wr_1 w.heap.size 26 #[.slice (some ⟨b,o,none⟩) n c,.slice B m d])∧Hid (Below w.heap.size w wr_1)) (fun j _=>nk - (intOf j).toNat)
   case atStart=>exact⟨0,Nat.zero_le _,rfl,hid rfl,HB,HL⟩
   case round =>
    clear HB HL t0 t1
    obtain⟨q,hq,rfl,HQ,HB,HL⟩:=hrel
    have t0:=HB.out.cell 0
    have t1:=HB.out.cell 1
    have c3:=HKV.out wr HL.out
    by_cases hqk:q < nk
    ·have j3:decide (q < nk)=true:=decide_eq_true hqk
     obtain⟨bk,ok,rfl,hbk,hck⟩:=HXK.out.ex (by rw [← HNK.out];omega)
     obtain⟨z,hz⟩:∃ z,y.kids[q]? = some z:=⟨_,List.getElem?_eq_getElem (by rw [← HNK.out];exact hqk)⟩
     have cj:=(HL.out.cell (p:=⟨bk,ok+q,none⟩) hbk).trans (hck q z hz)
     have j1:(0:Int)≤(q:Int):=by omega
     have j2:(q:Int) < (nk:Int):=by omega
     have HZ:=hid hz
     clear hck hz
     cases hs:z == node
     ·have HSX:=hid hs
      go_wp2_with fail
      exact⟨⟨q+1,by omega,by go_num,hid (by rw [List.take_add_one,HZ.out,List.all_append,HQ.out];simp [HSX.out]),HB,HL⟩,by simp [intOf];omega⟩
     ·have HR:=hid (show aboveN (nds xs) node=(k:Int) from firstN_hit HA.out HXG.out (by rw [List.any_eq_true];exact⟨z,List.mem_of_getElem? HZ.out,hs⟩))
      go_wp2_with fail
      go_ret
      exact⟨by rw [HR.out];first | done | rfl,HL.out⟩
    ·have j3:decide (q < nk)=false:=decide_eq_false hqk
     have HNO:=hid (show (!(y.kids.any (· == node)))=true by
      have h9:=HQ.out
      rw [List.take_of_length_le (by rw [← HNK.out];omega)] at h9
      rw [List.all_eq_true] at h9
      rw [Bool.not_eq_true',← Bool.not_eq_true,List.any_eq_true]
      rintro⟨z,hz,he⟩
      have:=h9 z hz
      rw [he] at this;cases this)
     go_wp2_with fail
     exact⟨⟨k+1,by omega,by go_num,hid (by rw [HS.out,List.all_append,HA.out];simpa using HNO.out),HB,HL⟩,by simp [intOf];omega⟩
  ·have i3:decide (k < n)=false:=decide_eq_false hkn
   have HR:=hid (show aboveN (nds xs) node=-1 by
    have h9:=HA.out
    rw [List.take_of_length_le (by rw [nds_len,← HN.out];omega)] at h9
    exact firstN_miss h9)
   go_wp2_with fail
   go_ret
   exact⟨by rw [HR.out];first | done | rfl,HL.out⟩
section
variable (A B:Option Addr) (c d:Nat) (xs:List NV) (its:List Int) (node:Int) (w:World) (hT:TAt w A B xs its) (hn:xs.length≤10000) (hm:its.length≤10000) (hl:∀ x ∈ xs,x.1.text.length≤100000000) (hnum:∀ n ∈ nds xs,lowN≤n.n∧n.n≤highN)
include hT hn hm hl hnum
theorem rsize_any :
  Calls Tryz.prog 39 #[.agg #[.slice A xs.length c,.slice B its.length d],.int .i64 node] w fun e w'=>e=.returned (.tuple #[.int .i64 (ansV (sizeV ⟨nds xs,its⟩ node) (askE ⟨nds xs,its⟩ xs.length node)),.int .i64 (askE ⟨nds xs,its⟩ xs.length node)])∧Below w.heap.size w w':=by
 have HOP:=hid fun W (hb:Below w.heap.size w W)=>ropen_any A B c d xs its node W (hT.below hb) hn hm hl hnum
 have HSZ:=hid fun W (hb:Below w.heap.size w W)=>sizes_any A B c its.length d xs its W (hT.below hb) hn
 have HVV:=hid (show askE ⟨nds xs,its⟩ xs.length node=0→∃ (k:Nat) (sz:List Int),node=(k:Int)∧k < xs.length∧sizesTo (nds xs) xs.length=some sz∧sz.length=xs.length∧sizeV ⟨nds xs,its⟩ node=sz.getD k 0 from fun h=>by
  obtain⟨h1,h2,h3⟩:=askE_zero h
  obtain⟨_,hro,_⟩:=checkW_zero h1
  obtain⟨sz,hz,hs⟩:=Rooted.sizes hro.fo
  obtain⟨k,rfl⟩:∃ k:Nat,node=(k:Int):=⟨node.toNat,by omega⟩
  refine⟨k,sz,rfl,by omega,?_,?_,?_⟩
  ·rw [← nds_len];exact (sizesTo_all ⟨nds xs,its⟩).trans hz
  ·have h9:=hs.1;rw [← nds_len];exact h9
  ·unfold sizeV;rw [hz];rfl)
 obtain⟨E,hE⟩:∃ E,E=askE ⟨nds xs,its⟩ xs.length node:=⟨_,rfl⟩
 rw [← hE] at HOP HVV ⊢
 obtain⟨V,hV⟩:∃ V,V=sizeV ⟨nds xs,its⟩ node:=⟨_,rfl⟩
 rw [← hV] at HVV ⊢
 have HT:=hid hT
 clear hE hV hT hm hl hnum
 obtain⟨n,hnn⟩:∃ n,n=xs.length:=⟨_,rfl⟩
 rw [← hnn] at HOP HVV HSZ hn ⊢
 have HN:=hid hnn
 clear hnn
 have HB0:=hid (Blk.new w 26 #[.slice A n c,.slice B its.length d])
 have HL0:=hid (balloc (Below.refl w.heap.size w) (Nat.le_refl _) (o:=.cells #[.slice A n c,.slice B its.length d] 26))
 go_enter Tryz.func39,Tryz.ntmps39
 go_wp2_with fail
 refine (HOP.out _ HL0.out).mono ?_
 rintro e w1⟨rfl,hb1⟩
 have HB:=hid (HB0.out.below hb1 HB0.out.lt)
 have HL:=hid (HL0.out.trans (hb1.mono HL0.out.size))
 clear hb1 HB0 HL0 HOP
 have t0:=HB.out.cell 0
 have t1:=HB.out.cell 1
 by_cases hE0:E=0
 case neg =>
  have e1:(E != 0)=true:=by simpa using hE0
  have HX:=hid (show ansV V E=0 from if_neg hE0)
  clear hE0
  go_wp2_with fail
  go_ret2
  exact⟨by rw [HX.out];first | done | rfl,HL.out⟩
 subst hE0
 have HX:=hid (show ansV V 0=V from if_pos rfl)
 obtain⟨k,sz,rfl,hk,hsz,hszl,hv⟩:=HVV.out rfl
 have HVQ:=hid hv
 clear hv
 have z0:(0:Int)≤(k:Int):=by omega
 have z1:(k:Int) < (n:Int):=by omega
 have HZ:=hid hsz
 clear hsz HVV
 go_wp2_with fail
 refine (HSZ.out _ HL.out).mono ?_
 rintro e w2⟨hb2,h2⟩
 rcases h2 with ⟨hno,rfl⟩ | ⟨sz',v,hsz',rfl,hown⟩
 ·exact absurd (HZ.out.symm.trans hno) (by simp)
 obtain rfl:sz=sz':=Option.some.inj (HZ.out.symm.trans hsz')
 obtain⟨g,cap,rfl,_,hgl,hcg⟩:=own_cell hown hszl (by omega)
 have s0:w2.cell? ⟨g,k,none⟩=some (.int .i64 V):=by rw [HVQ.out];exact hcg k hk
 have HL2:=hid (HL.out.trans (hb2.mono HL.out.size))
 clear hb2 hown hsz' hcg HZ t0 t1
 go_wp2_with fail
 go_ret2
 exact⟨by rw [HX.out];first | done | rfl,HL2.out⟩
theorem rdepth_any :
  Calls Tryz.prog 40 #[.agg #[.slice A xs.length c,.slice B its.length d],.int .i64 node] w fun e w'=>e=.returned (.tuple #[.int .i64 (ansV (depthV ⟨nds xs,its⟩ node) (askE ⟨nds xs,its⟩ xs.length node)),.int .i64 (askE ⟨nds xs,its⟩ xs.length node)])∧Below w.heap.size w w':=by
 have HOP:=hid fun W (hb:Below w.heap.size w W)=>ropen_any A B c d xs its node W (hT.below hb) hn hm hl hnum
 have HVV:=hid (show askE ⟨nds xs,its⟩ xs.length node=0→∃ (k:Nat),node=(k:Int)∧k < xs.length∧depthV ⟨nds xs,its⟩ node=(((depthsOf (nds xs)).getD k 0:Nat):Int)∧(depthsOf (nds xs)).length=xs.length∧∀ W,Below w.heap.size w W→Calls Tryz.prog 83 #[.agg #[.slice A xs.length c,.slice B its.length d]] W fun e w'=>∃ g,e=.returned (.slice (some ⟨g,0,none⟩) xs.length xs.length)∧W.heap.size≤g∧Blk w' g 3 (iA (depthsOf (nds xs)))∧Below W.heap.size W w' from fun h=>by
  obtain⟨h1,h2,h3⟩:=askE_zero h
  obtain⟨_,hro,out,hs⟩:=checkW_zero h1
  have hW:=szOk_wf hs
  obtain⟨k,rfl⟩:∃ k:Nat,node=(k:Int):=⟨node.toNat,by omega⟩
  refine⟨k,rfl,by omega,?_,?_,fun W hb=>rdepths_any A B c its.length d xs its W (hT.below hb) hW (by omega)⟩
  ·have h9:=depths_up hW hro.fo (j:=k) (by show k < (nds xs).length;rw [nds_len];omega)
   unfold depthV
   rw [h9];rfl
  ·unfold depthsOf;rw [dRun_len,List.length_replicate,nds_len])
 obtain⟨E,hE⟩:∃ E,E=askE ⟨nds xs,its⟩ xs.length node:=⟨_,rfl⟩
 rw [← hE] at HOP HVV ⊢
 obtain⟨V,hV⟩:∃ V,V=depthV ⟨nds xs,its⟩ node:=⟨_,rfl⟩
 rw [← hV] at HVV ⊢
 have HT:=hid hT
 clear hE hV hT hm hl hnum
 obtain⟨n,hnn⟩:∃ n,n=xs.length:=⟨_,rfl⟩
 rw [← hnn] at HOP HVV hn ⊢
 have HN:=hid hnn
 clear hnn
 have HB0:=hid (Blk.new w 26 #[.slice A n c,.slice B its.length d])
 have HL0:=hid (balloc (Below.refl w.heap.size w) (Nat.le_refl _) (o:=.cells #[.slice A n c,.slice B its.length d] 26))
 go_enter Tryz.func40,Tryz.ntmps40
 go_wp2_with fail
 refine (HOP.out _ HL0.out).mono ?_
 rintro e w1⟨rfl,hb1⟩
 have HB:=hid (HB0.out.below hb1 HB0.out.lt)
 have HL:=hid (HL0.out.trans (hb1.mono HL0.out.size))
 clear hb1 HB0 HL0 HOP
 have t0:=HB.out.cell 0
 have t1:=HB.out.cell 1
 by_cases hE0:E=0
 case neg =>
  have e1:(E != 0)=true:=by simpa using hE0
  have HX:=hid (show ansV V E=0 from if_neg hE0)
  clear hE0
  go_wp2_with fail
  go_ret2
  exact⟨by rw [HX.out];first | done | rfl,HL.out⟩
 subst hE0
 have HX:=hid (show ansV V 0=V from if_pos rfl)
 obtain⟨k,rfl,hk,hv,hdl,hcd⟩:=HVV.out rfl
 have HCD:=hid hcd
 obtain⟨D,hD⟩:∃ D,D=depthsOf (nds xs):=⟨_,rfl⟩
 rw [← hD] at hv hdl HCD
 have HVQ:=hid hv
 clear hv
 have z0:(0:Int)≤(k:Int):=by omega
 have z1:(k:Int) < (n:Int):=by omega
 clear hcd HVV hD
 go_wp2_with fail
 refine (HCD.out _ HL.out).mono ?_
 rintro e w2⟨g,rfl,_,hbl,hb2⟩
 have s0:w2.cell? ⟨g,k,none⟩=some (.int .i64 V):=by rw [HVQ.out];exact (hbl.cell k).trans (iA_get D k (by omega))
 have HL2:=hid (HL.out.trans (hb2.mono HL.out.size))
 clear hb2 hbl t0 t1
 go_wp2_with fail
 go_ret2
 exact⟨by rw [HX.out];first | done | rfl,HL2.out⟩
theorem rparent_any :
  Calls Tryz.prog 41 #[.agg #[.slice A xs.length c,.slice B its.length d],.int .i64 node] w fun e w'=>e=.returned (.tuple #[.int .i64 (ansV (parentV ⟨nds xs,its⟩ node) (askE ⟨nds xs,its⟩ xs.length node)),.int .i64 (askE ⟨nds xs,its⟩ xs.length node)])∧Below w.heap.size w w':=by
 have HOP:=hid fun W (hb:Below w.heap.size w W)=>ropen_any A B c d xs its node W (hT.below hb) hn hm hl hnum
 have HAB:=hid fun W (hb:Below w.heap.size w W)=>above_any A B c its.length d xs its node W (hT.below hb) hn
 have HVV:=hid (show askE ⟨nds xs,its⟩ xs.length node=0→parentV ⟨nds xs,its⟩ node=aboveN (nds xs) node from fun h=>by
  obtain⟨h1,h2,h3⟩:=askE_zero h
  obtain⟨_,hro,out,hs⟩:=checkW_zero h1
  obtain⟨k,rfl⟩:∃ k:Nat,node=(k:Int):=⟨node.toNat,by omega⟩
  exact parents_above (szOk_wf hs) hro.fo (j:=k) (by show k < (nds xs).length;rw [nds_len];omega))
 obtain⟨E,hE⟩:∃ E,E=askE ⟨nds xs,its⟩ xs.length node:=⟨_,rfl⟩
 rw [← hE] at HOP HVV ⊢
 obtain⟨V,hV⟩:∃ V,V=parentV ⟨nds xs,its⟩ node:=⟨_,rfl⟩
 rw [← hV] at HVV ⊢
 have HT:=hid hT
 clear hE hV hT hm hl hnum
 obtain⟨n,hnn⟩:∃ n,n=xs.length:=⟨_,rfl⟩
 rw [← hnn] at HOP HAB hn ⊢
 have HN:=hid hnn
 clear hnn
 have HB0:=hid (Blk.new w 26 #[.slice A n c,.slice B its.length d])
 have HL0:=hid (balloc (Below.refl w.heap.size w) (Nat.le_refl _) (o:=.cells #[.slice A n c,.slice B its.length d] 26))
 go_enter Tryz.func41,Tryz.ntmps41
 go_wp2_with fail
 refine (HOP.out _ HL0.out).mono ?_
 rintro e w1⟨rfl,hb1⟩
 have HB:=hid (HB0.out.below hb1 HB0.out.lt)
 have HL:=hid (HL0.out.trans (hb1.mono HL0.out.size))
 clear hb1 HB0 HL0 HOP
 have t0:=HB.out.cell 0
 have t1:=HB.out.cell 1
 by_cases hE0:E=0
 case neg =>
  have e1:(E != 0)=true:=by simpa using hE0
  have HX:=hid (show ansV V E=0 from if_neg hE0)
  clear hE0
  go_wp2_with fail
  go_ret2
  exact⟨by rw [HX.out];first | done | rfl,HL.out⟩
 subst hE0
 have HX:=hid (show ansV V 0=V from if_pos rfl)
 have hv:=HVV.out rfl
 subst hv
 clear HVV
 go_wp2_with fail
 refine (HAB.out _ HL.out).mono ?_
 rintro e w2⟨rfl,hb2⟩
 have HL2:=hid (HL.out.trans (hb2.mono HL.out.size))
 clear hb2 t0 t1
 go_wp2_with fail
 go_ret2
 exact⟨by rw [HX.out];first | done | rfl,HL2.out⟩
theorem ritemN_any :
  Calls Tryz.prog 43 #[.agg #[.slice A xs.length c,.slice B its.length d],.int .i64 node] w fun e w'=>e=.returned (.tuple #[.int .i64 (ansV (itemV ⟨nds xs,its⟩ node) (askE ⟨nds xs,its⟩ xs.length node)),.int .i64 (askE ⟨nds xs,its⟩ xs.length node)])∧Below w.heap.size w w':=by
 have HOP:=hid fun W (hb:Below w.heap.size w W)=>ropen_any A B c d xs its node W (hT.below hb) hn hm hl hnum
 have HVV:=hid (show askE ⟨nds xs,its⟩ xs.length node=0→∃ (q:Nat) (r:Int),itemV ⟨nds xs,its⟩ node=(q:Int)∧its[q]? = some r∧node≤r∧∀ (q':Nat) z,q' < q→its[q']? = some z→z < node from fun h=>by
  obtain⟨h1,h2,h3⟩:=askE_zero h
  obtain⟨_,hro,out,hs⟩:=checkW_zero h1
  obtain⟨k,rfl⟩:∃ k:Nat,node=(k:Int):=⟨node.toNat,by omega⟩
  obtain⟨q,r,g1,g2,g3,_⟩:=item_up (szOk_wf hs) hro.fo (i:=k) (by show k < (nds xs).length;rw [nds_len];omega)
  refine⟨q,r,?_,g1,by omega,g3⟩
  unfold itemV
  rw [findIdx_first g1 (by omega) g3])
 obtain⟨E,hE⟩:∃ E,E=askE ⟨nds xs,its⟩ xs.length node:=⟨_,rfl⟩
 rw [← hE] at HOP HVV ⊢
 obtain⟨V,hV⟩:∃ V,V=itemV ⟨nds xs,its⟩ node:=⟨_,rfl⟩
 rw [← hV] at HVV ⊢
 have HT:=hid hT
 clear hE hV hT hl hnum
 obtain⟨n,hnn⟩:∃ n,n=xs.length:=⟨_,rfl⟩
 rw [← hnn] at HOP hn ⊢
 have HN:=hid hnn
 clear hnn
 have HB0:=hid (Blk.new w 26 #[.slice A n c,.slice B its.length d])
 have HL0:=hid (balloc (Below.refl w.heap.size w) (Nat.le_refl _) (o:=.cells #[.slice A n c,.slice B its.length d] 26))
 go_enter Tryz.func43,Tryz.ntmps43
 go_wp2_with fail
 refine (HOP.out _ HL0.out).mono ?_
 rintro e w1⟨rfl,hb1⟩
 have HB:=hid (HB0.out.below hb1 HB0.out.lt)
 have HL:=hid (HL0.out.trans (hb1.mono HL0.out.size))
 clear hb1 HB0 HL0 HOP
 have t0:=HB.out.cell 0
 have t1:=HB.out.cell 1
 by_cases hE0:E=0
 case neg =>
  have e1:(E != 0)=true:=by simpa using hE0
  have HX:=hid (show ansV V E=0 from if_neg hE0)
  clear hE0
  go_wp2_with fail
  go_ret2
  exact⟨by rw [HX.out];first | done | rfl,HL.out⟩
 subst hE0
 have HX:=hid (show ansV V 0=V from if_pos rfl)
 obtain⟨q,r,hv,hq,hr,hf⟩:=HVV.out rfl
 subst hv
 have hqi:=(List.getElem?_eq_some_iff.1 hq).1
 have HF:=hid hf
 have HQ:=hid hq
 clear hf hq HVV
 obtain⟨b2,o2,rfl,hbl,hci⟩:=HT.out.items.ex (by omega)
 have HCI:=hid (show ∀ W,Below w.heap.size w W→∀ (j:Nat) z,its[j]? = some z→W.cell? ⟨b2,o2+j,none⟩=some (.int .i64 z) from fun W hb j z hz=>(hb.cell (by exact hbl)).trans (hci j z hz))
 obtain⟨m,hmm⟩:∃ m,m=its.length:=⟨_,rfl⟩
 rw [← hmm] at HB t1 hqi hm
 have HM:=hid hmm
 clear hci hmm t0 t1 HT HN
 go_wp2_with fail
 go_loopw [7] (fun i wr=>∃ k:Nat,k≤q∧i=.int .i64 k∧Hid (Blk wr w.heap.size 26 #[.slice A n c,.slice (some ⟨b2,o2,none⟩) m d])∧Hid (Below w.heap.size w wr)) (fun i _=>q - (intOf i).toNat)
 case atStart=>exact⟨0,Nat.zero_le _,rfl,HB,HL⟩
 case round =>
  clear HB HL
  obtain⟨k,hk,rfl,HB,HL⟩:=hrel
  have t0:=HB.out.cell 0
  have t1:=HB.out.cell 1
  have z0:(0:Int)≤(k:Int):=by omega
  have z1:(k:Int) < (m:Int):=by omega
  rcases Nat.lt_or_ge k q with hkq | hkq
  ·obtain⟨z,hz⟩:∃ z,its[k]? = some z:=⟨_,List.getElem?_eq_getElem (by rw [← HM.out];omega)⟩
   have s0:=HCI.out wr HL.out k z hz
   have d1:decide (z < node)=true:=decide_eq_true (HF.out k z hkq hz)
   clear hz
   go_wp2_with fail
   exact⟨⟨k+1,by omega,by go_num,HB,HL⟩,by simp [intOf];omega⟩
  ·obtain rfl:k=q:=by omega
   have s0:=HCI.out wr HL.out k r HQ.out
   have d1:decide (r < node)=false:=decide_eq_false (by omega)
   go_wp2_with fail
   go_ret2
   exact⟨by rw [HX.out];first | done | rfl,HL.out⟩
end
end Go.Proofs.YthepmkjggfijoaaGreatDoor
namespace Go.Proofs.YthepmkjggfijoaaGreatDoor
open Go.RowKit Mist
attribute [local go_sem] ofL_extract ofL_size ofL_get ofL_bytes ofL_append
def pathV (T:Tr)(k:Int):List Int:=(upN (parentsOf T.nodes) k.toNat).reverse.map fun (n:Nat)=>(n:Int)
def pathZ (T:Tr)(n:Nat)(k:Int):List Int:=if askE T n k=0 then pathV T k else []
theorem upL_len (P:List Int):∀ (f:Nat) (n:Int),(upL P f n).length≤f
 | 0,_=>by simp [upL]
 | f+1,n=>by
  rw [upL]
  split
  ·simp
  ·rw [List.length_cons];have:=upL_len P f (P.getD n.toNat 0);omega
theorem pathZ_len (T:Tr)(n:Nat)(k:Int)(h:T.nodes.length=n)(hn:n≤1000):(pathZ T n k).length≤1000000:=by
 unfold pathZ
 split
 ·unfold pathV upN
  rw [List.length_map,List.length_reverse]
  have h1:=upL_len (parentsOf T.nodes) ((parentsOf T.nodes).length+1) (k.toNat:Int)
  have h2:(parentsOf T.nodes).length=T.nodes.length:=pRun_len _ _
  omega
 ·simp
theorem Blk.on {w w':World}{b:Nat}{T:TypeId}{cs:Array Value}(h:Blk w b T cs)(hb:Below w.heap.size w w'):Blk w' b T cs:=h.below hb h.lt
theorem btr {a b c:World}(h:Below a.heap.size a b)(k:Below b.heap.size b c):Below a.heap.size a c:=h.trans (k.mono h.size)
theorem ints_nil (w:World)(A:Option Addr):IntsIn w A []:=⟨fun h=>absurd h (by simp)⟩
theorem tpath_any (A B:Option Addr)(c d:Nat)(xs:List NV)(its:List Int)(node:Int)(w:World)(hT:TAt w A B xs its)(hR:TrR (nds xs))(hE:Env w) :
  Calls Tryz.prog 36 #[.agg #[.slice A xs.length c,.slice B its.length d],.int .i64 node] w fun e w'=>Below w.heap.size w w'∧∃ Ag cap,e=.returned (.tuple #[.slice Ag (pathZ ⟨nds xs,its⟩ xs.length node).length cap,.int .i64 (askE ⟨nds xs,its⟩ xs.length node)])∧IntsIn w' Ag (pathZ ⟨nds xs,its⟩ xs.length node):=by
 refine (treePath_any A B c d xs its node w hT hR (fun W hb=>hE.below hb)).mono ?_
 rintro e w' ⟨hb,⟨h1,rfl⟩ | ⟨h1,h2,h3,g,cap,rfl,hg,hc⟩⟩
 ·refine⟨hb,none,0,?_,?_⟩
  ·unfold pathZ;rw [if_neg h1];rfl
  ·unfold pathZ;rw [if_neg h1];exact ints_nil _ _
 ·obtain⟨k,rfl⟩:∃ k:Nat,node=(k:Int):=⟨node.toNat,by omega⟩
  obtain⟨hz,_,_⟩:=askE_zero h1
  obtain⟨_,hro,out,hs⟩:=checkW_zero hz
  obtain⟨hG,hGl⟩:=goodP_of (szOk_wf hs)
  rw [show (Tr.nodes ⟨nds xs,its⟩).length=xs.length from nds_len xs] at hGl
  have hu:upL (parentsOf (nds xs)) (xs.length+1) (k:Int)=upN (parentsOf (nds xs)) k:=by unfold upN;rw [show (parentsOf (nds xs)).length=xs.length from hGl]
  rw [hu] at hc ⊢
  have hz:pathZ ⟨nds xs,its⟩ xs.length (k:Int)=(upN (parentsOf (nds xs)) k).reverse.map fun (n:Nat)=>(n:Int):=by unfold pathZ;rw [if_pos h1];rfl
  refine⟨hb,some ⟨g,0,none⟩,cap,?_,?_⟩
  ·rw [hz,h1,List.length_map,List.length_reverse]
  ·rw [hz]
   refine⟨fun h0=>⟨g,0,rfl,?_,fun j z hj=>?_⟩⟩
   ·rw [List.length_map] at h0
    exact cell_lt (hc 0 _ (List.getElem?_eq_getElem h0))
   ·rw [List.getElem?_map] at hj
    rcases hq:(upN (parentsOf (nds xs)) k).reverse[j]? with _ | q
    ·rw [hq] at hj;cases hj
    ·rw [hq] at hj
     injection hj with hj
     rw [Nat.zero_add,← hj]
     exact hc j q hq
def upM (n:Nat)(i:Int):Nat:=if i < 0 then 0 else n - i.toNat
theorem upM_pos {n:Nat}{i:Int}(h:0≤i):upM n i=n - i.toNat:=if_neg (by omega)
theorem upM_neg {n:Nat}{i:Int}(h:i < 0):upM n i=0:=if_pos h
def restN (P:List Int)(cur:Int):List Nat:=if cur=-1 then [] else upN P cur.toNat
theorem restN_step {P:List Int}(hP:GoodP P){u:Nat}(hu:u < P.length):restN P (u:Int)=u :: restN P (P.getD u 0):=by
 unfold restN
 rw [if_neg (by omega),Int.toNat_natCast]
 rcases hP u hu with h | ⟨h1,h2⟩
 ·rw [if_pos h,upN_root h]
 ·obtain⟨m,hm⟩:∃ m:Nat,P.getD u 0=(m:Int):=⟨(P.getD u 0).toNat,by omega⟩
  rw [hm,if_neg (by omega),Int.toNat_natCast,upN_kid hP hm (by omega)]
def zZ (l:List Nat):List Int:=l.map fun (n:Nat)=>(n:Int)
theorem zZ_len (l:List Nat):(zZ l).length=l.length:=by simp [zZ]
theorem rpath_any (A B:Option Addr)(c d:Nat)(xs:List NV)(its:List Int)(node:Int)(w:World)(hT:TAt w A B xs its)(hn:xs.length≤10000)(hm:its.length≤10000)(hl:∀ x ∈ xs,x.1.text.length≤100000000)(hnum:∀ n ∈ nds xs,lowN≤n.n∧n.n≤highN) :
  Calls Tryz.prog 42 #[.agg #[.slice A xs.length c,.slice B its.length d],.int .i64 node] w fun e w'=>Below w.heap.size w w'∧∃ Ag cap,e=.returned (.tuple #[.slice Ag (pathZ ⟨nds xs,its⟩ xs.length node).length cap,.int .i64 (askE ⟨nds xs,its⟩ xs.length node)])∧IntsIn w' Ag (pathZ ⟨nds xs,its⟩ xs.length node):=by
 have HOP:=hid fun W (hb:Below w.heap.size w W)=>ropen_any A B c d xs its node W (hT.below hb) hn hm hl hnum
 have HAB:=hid fun W (hb:Below w.heap.size w W) (cur:Int)=>above_any A B c its.length d xs its cur W (hT.below hb) hn
 have HVV:=hid (show askE ⟨nds xs,its⟩ xs.length node=0→∃ (k:Nat) (P:List Int),node=(k:Int)∧k < xs.length∧GoodP P∧P.length=xs.length∧pathZ ⟨nds xs,its⟩ xs.length node=zZ (restN P (k:Int)).reverse∧∀ u,u < xs.length→aboveN (nds xs) (u:Int)=P.getD u 0 from fun h=>by
  obtain⟨h1,h2,h3⟩:=askE_zero h
  obtain⟨_,hro,out,hs⟩:=checkW_zero h1
  obtain⟨hG,hGl⟩:=goodP_of (szOk_wf hs)
  rw [show (Tr.nodes ⟨nds xs,its⟩).length=xs.length from nds_len xs] at hGl
  obtain⟨k,rfl⟩:∃ k:Nat,node=(k:Int):=⟨node.toNat,by omega⟩
  refine⟨k,parentsOf (nds xs),rfl,by omega,hG,hGl,?_,fun u hu=>(parents_above (szOk_wf hs) hro.fo (j:=u) (by show u < (nds xs).length;rw [nds_len];exact hu)).symm⟩
  unfold pathZ restN
  rw [if_pos h,if_neg (by omega),Int.toNat_natCast]
  rfl)
 have HZN:=hid (show askE ⟨nds xs,its⟩ xs.length node ≠ 0→pathZ ⟨nds xs,its⟩ xs.length node=[] from fun h=>if_neg h)
 obtain⟨E,hE⟩:∃ E,E=askE ⟨nds xs,its⟩ xs.length node:=⟨_,rfl⟩
 rw [← hE] at HOP HVV HZN ⊢
 obtain⟨V,hV⟩:∃ V,V=pathZ ⟨nds xs,its⟩ xs.length node:=⟨_,rfl⟩
 rw [← hV] at HVV HZN ⊢
 clear hE hV hT hm hl hnum
 obtain⟨n,hnn⟩:∃ n,n=xs.length:=⟨_,rfl⟩
 rw [← hnn] at HOP HVV HAB hn ⊢
 clear hnn
 have HB0:=hid (Blk.new w 26 #[.slice A n c,.slice B its.length d])
 have HL0:=hid (balloc (Below.refl w.heap.size w) (Nat.le_refl _) (o:=.cells #[.slice A n c,.slice B its.length d] 26))
 go_enter Tryz.func42,Tryz.ntmps42
 go_wp2_with fail
 refine (HOP.out _ HL0.out).mono ?_
 rintro e w1⟨rfl,hb1⟩
 have HB:=hid (HB0.out.below hb1 HB0.out.lt)
 have HL:=hid (HL0.out.trans (hb1.mono HL0.out.size))
 clear hb1 HB0 HL0 HOP
 by_cases hE0:E=0
 case neg =>
  have e1:(E != 0)=true:=by simpa using hE0
  have hz:=HZN.out hE0
  clear hE0 HZN HVV
  subst hz
  go_wp2_with fail
  go_ret2
  exact⟨HL.out,none,0,rfl,ints_nil _ _⟩
 subst hE0
 obtain⟨k,P,rfl,hk,hG,hPl,hv,ha⟩:=HVV.out rfl
 have HG:=hid hG
 have HPL:=hid hPl
 have HV:=hid hv
 have HA:=hid ha
 clear HVV HZN hG hPl hv ha
 obtain⟨j0,hj0,hy0,hy1,hy2⟩:=info_parts int_info
 have hlt1:=HB.out.lt
 have HB2:=hid (HB.out.alloc (.cells #[] 3))
 have HL2:=hid (balloc HL.out HL.out.size (o:=.cells #[] 3))
 have HO2:=hid (World.ownsRow_made (base:=w.heap.size+1) (e:=3) (size:=1) w1 #[] 0 (by omega) (by simp [maxLen]) rfl)
 clear HB HL
 go_wp2_with fail
 go_loopw [1,7] (fun i v wr=>∃ (cur:Int) (pre:List Nat) (g cap:Nat),i=.int .i64 cur∧v=.slice (some ⟨g,0,none⟩) pre.length cap∧(cur=-1∨∃ u:Nat,cur=(u:Int)∧u < n∧pre.length≤u)∧Hid (restN P (k:Int)=pre ++ restN P cur)∧Hid (wr.ownsRow (w.heap.size+1) 3 1 (.slice (some ⟨g,0,none⟩) pre.length cap) pre.length (intCells (zZ pre.reverse)))∧Hid (Blk wr w.heap.size 26 #[.slice A n c,.slice B its.length d])∧Hid (Below w.heap.size w wr)) (fun i _ _=>upM n (intOf i))
 case atStart=>exact⟨(k:Int),[],_,_,rfl,rfl,.inr ⟨k,rfl,hk,Nat.zero_le _⟩,hid rfl,hid (by simpa [zZ,intCells] using HO2.out),HB2,HL2⟩
 case round =>
  clear HB2 HL2 HO2 hlt1
  obtain⟨wo,rfl⟩:∃ wo:World,wo=wr:=⟨_,rfl⟩
  obtain⟨cur,pre,g,cap,rfl,rfl,hcur,HP,HO,HB,HL⟩:=hrel
  rcases hcur with rfl | ⟨u,rfl,hu,hpu⟩
  ·have HZ:=hid (show V=zZ pre.reverse by
    have h9:=HP.out
    rw [HV.out,h9]
    unfold restN
    rw [if_pos rfl,List.append_nil])
   have hvl:V.length=pre.length:=by rw [HZ.out,zZ_len,List.length_reverse]
   go_wp2_with fail
   go_ret2
   refine⟨HL.out,some ⟨g,0,none⟩,cap,by rw [hvl];first | done | rfl,?_⟩
   rw [HZ.out]
   exact own_ints HO.out (by rw [zZ_len,List.length_reverse])
  ·have d0:decide ((0:Int)≤(u:Int))=true:=decide_eq_true (by omega)
   have HNB:=hid (World.ownsRow_lit (base:=w.heap.size+1) (e:=3) (size:=1) wo #[.int .i64 (u:Int)] 1 (by have:=HB.out.lt;omega) (by simp [maxLen]) rfl)
   have HOA:=hid (HO.out.alloc (.cells #[.int .i64 (u:Int)] 3))
   have HBA:=hid (HB.out.alloc (.cells #[.int .i64 (u:Int)] 3))
   have HLA:=hid (balloc HL.out HL.out.size (o:=.cells #[.int .i64 (u:Int)] 3))
   have hlt:=HB.out.lt
   have HST:=hid (restN_step HG.out (u:=u) (by rw [HPL.out];exact hu))
   have HAU:=hid (HA.out u hu)
   have HGU:=hid (HG.out u (by rw [HPL.out];exact hu))
   obtain⟨p,hp⟩:∃ p,p=pre.length:=⟨_,rfl⟩
   rw [← hp] at HO HOA hpu ⊢
   have HPP:=hid hp;clear hp
   have q1:1+p≤maxLen:=by simp only [maxLen];omega
   have q2:(1+p) * 8≤140737488355328:=by omega
   have q3:w.heap.size+1≤(wo.alloc (.cells #[.int .i64 (u:Int)] 3)).heap.size:=by simp;omega
   have q4:(intCells (zZ pre.reverse)).length=p * 1:=by rw [HPP.out];simp [intCells,zZ]
   have q5:some w.heap.size ≠ (Value.slice (some ⟨wo.heap.size,0,none⟩) 1 1).ownBlock:=by intro e;simp [Value.ownBlock] at e;omega
   have q6:w.heap.size≤(wo.alloc (.cells #[.int .i64 (u:Int)] 3)).heap.size:=by omega
   have q7:∀ b,(Value.slice (some ⟨wo.heap.size,0,none⟩) 1 1).ownBlock=some b→w.heap.size≤b:=by intro b hb;simp [Value.ownBlock] at hb;omega
   go_wp2_with (at_builtin;go_loud (refine wpList_append_own _ rfl (.tmp 18) (.tmp 19) 24 rfl (w.heap.size+1) 3 j0 (.int .i64 0) 1 8 Tryz.underlying24 hj0 hy0 hy1 hy2 rfl (by decide) _ 1 [.int .i64 (u:Int)] rfl HNB.out ⟨g,0,none⟩ p cap (intCells (zZ pre.reverse)) rfl q4 (fun j z hz=>HOA.out.cells (g:=g) rfl j z hz) (by intro z hz;obtain⟨y,_,rfl⟩:=List.mem_map.1 hz;rfl) q1 q2 q3 ?_;intro v2 w2 hown2 hg2 _;rw [Nat.add_comm 1 p] at hown2;obtain⟨g',cap',rfl⟩:=ownsRow_succ hown2;have HB2:=hid (HBA.out.grown hg2 q5);have HO2:=hid hown2;have HL2:=hid (HLA.out.grown hg2 q6 q7);clear hown2 hg2 q1 q2 q3 q4 q5 q6 q7;have t0:=HB2.out.cell 0;have t1:=HB2.out.cell 1))
   go_wp2_with fail
   refine (HAB.out _ HL2.out _).mono ?_
   rintro e w4⟨rfl,hb4⟩
   rw [HAU.out]
   have HB4:=hid (HB2.out.below hb4 HB2.out.lt)
   have HO4:=hid (own_below HO2.out hb4)
   have HL4:=hid (HL2.out.trans (hb4.mono HL2.out.size))
   clear hb4 t0 t1
   obtain⟨cur,hcur⟩:∃ cur,cur=P.getD u 0:=⟨_,rfl⟩
   rw [← hcur] at HST HGU ⊢
   clear hcur
   go_wp2_with fail
   have HGL:=HPL.out
   refine⟨⟨cur,pre ++ [u],g',cap',rfl,by rw [List.length_append,← HPP.out];rfl,?_,hid (by rw [HP.out,HST.out,List.append_assoc];rfl),hid ?_,HB4,HL4⟩,?_⟩
   ·rcases HGU.out with h | ⟨h1,h2⟩
    ·exact .inl h
    ·exact .inr ⟨cur.toNat,by omega,by omega,by rw [List.length_append,← HPP.out];simp;omega⟩
   ·rw [List.length_append,← HPP.out,List.reverse_append]
    exact HO4.out
   ·show upM n cur < upM n (u:Int)
    rw [upM_pos (i:=(u:Int)) (by omega)]
    rcases HGU.out with h | ⟨h1,h2⟩
    ·rw [h,upM_neg (by omega)];omega
    ·rw [upM_pos (by omega)];omega
end Go.Proofs.YthepmkjggfijoaaGreatDoor
